/- Addresses in arrays, stores, copies and cuts: what they change, and what that depends on. -/
import Derived.Test.YtjbglbhcbenhpaaPlain4
namespace Go.Abs
open Go Go.RowKit
set_option linter.unusedVariables false
set_option linter.unusedSimpArgs false
variable {tab:List (Nat×V)} {t:AD} {σ σ':St} {p:Prop}
theorem oIdA_loc {n:Nat} {j:Int} {d:D} {a:Option V} (he:oIdA n j d σ t a=some (p,σ')):σ'=σ.put t d∧∃y,a=some y∧∀(σ2:St) z,y.same z=true→oIdA n j d σ2 t (some z)=some (p,σ2.put t d):=by
 unfold oIdA at he
 split at he
 ·split at he
  ·rename_i hc;cases he
   refine⟨rfl,_,rfl,fun σ2 z hz=> ?_⟩
   cases z<;>try (simp[V.same]at hz;done)
   simp only[V.same,Bool.and_eq_true,beq_iff_eq]at hz
   simp only[oIdA];rw[if_pos (by rw[←hz.2];exact hc)]
  ·cases he
 ·cases he
theorem oIdT_loc {n:Nat} {j:Int} {a:Option V} (he:oIdT n j σ t a=some (p,σ')):∃e,σ'=σ.put t e∧∀(σ2:St),oIdT n j σ2 t a=some (p,σ2.put t e):=by
 unfold oIdT at*
 split at he
 ·split at he
  ·rename_i hc;cases he
   exact⟨_,rfl,fun σ2=>if_pos hc⟩
  ·cases he
 ·cases he
theorem iadrA_local {n:Nat} {x i:AO} (he:evalOp tab (.iadrA n x i) t σ=some (p,σ')) (hp:p):∃δ:Dl,σ'=δ.app σ∧Local tab (.iadrA n x i) t σ δ:=by
 have hi:∀σ2,Agree (rdO (.iadrA n x i)) (foot σ (.iadrA n x i)) σ σ2→σ2.ev i=σ.ev i:=fun σ2 h=>h.ev l2
 cases hj:asI (σ.ev i)with
 |none=>
  have he:oIadrA tab n σ t (σ.ev x) (asI (σ.ev i))=some (p,σ'):=he
  rw[hj]at he;unfold oIadrA at he;split at he<;>first|(rename_i e1;cases e1;done)|cases he
 |some j=>
  refine shape_local (x:=x) (F:=fun d σ=>oIadrA tab n σ t d (asI (σ.ev i))) (fun _=>rfl) (fun σ2 h=>h.ev l1) ?_ (fun _=>by simp only[oIadrA]) he hp
  intro d p σ' hx he hp
  have hFt:foot σ (.iadrA n x i)=footS (σ.ev x):=rfl
  rw[hx]at hFt
  simp only[hj]at he
  unfold oIadrA at he
  split at he
  ·rename_i k q j' e e2;cases e;cases e2
   obtain⟨h1,y,h3,h4⟩:=oIdA_loc he
   refine⟨_,h1,fun σ2 h=> ?_⟩
   obtain⟨b,h5,h6⟩:=box_shape h (k:=k) (q:=q) (by rw[hFt];rfl) h3
   exact⟨p,by simp only[hi σ2 h,hj,oIadrA];rw[h5];exact h4 σ2 b h6,hp⟩
  ·rename_i id q j' e e2;cases e;cases e2
   obtain⟨h1,y,h3,h4⟩:=oIdA_loc he
   refine⟨_,h1,fun σ2 h=> ?_⟩
   obtain⟨b,h5,h6⟩:=obj_shape h (id:=id) (q:=q) h3
   exact⟨p,by simp only[hi σ2 h,hj,oIadrA];rw[h5];exact h4 σ2 b h6,hp⟩
  ·rename_i g j' e e2;cases e;cases e2
   obtain⟨e,h1,h4⟩:=oIdT_loc he
   exact⟨e,h1,fun σ2 h=>⟨p,by simp only[hi σ2 h,hj,oIadrA];exact h4 σ2,hp⟩⟩
  ·rename_i y j' e e2;cases e;cases e2
   obtain⟨e,h1,h4⟩:=oIdT_loc he
   exact⟨e,h1,fun σ2 h=>⟨p,by simp only[hi σ2 h,hj,oIadrA];exact h4 σ2,hp⟩⟩
  ·cases he
theorem oIdG_loc {n sz:Nat} {j:Int} {d:D} {a:Option V} (he:oIdG n sz j d σ t a=some (p,σ')) (hp:p):σ'=σ.put t d∧∃y,a=some y∧∀(σ2:St) z,y.same z=true→∃p2,oIdG n sz j d σ2 t (some z)=some (p2,σ2.put t d)∧p2:=by
 unfold oIdG at he
 split at he
 ·rename_i l
  split at he
  ·rename_i hc;cases he
   refine⟨rfl,_,rfl,fun σ2 z hz=> ?_⟩
   cases z<;>try (simp[V.same]at hz;done)
   rename_i m
   simp only[V.same]at hz
   refine⟨(0≤j∧j < (n:Int))∧∀x∈m,V.size x=sz,by simp only[oIdG];rw[if_pos (by rw[←sameL_len hz];exact hc)],hp.1,(sameL_sizes (V.sameL_symm hz)).2 sz hp.2⟩
  ·cases he
 ·cases he
theorem iadrS_local {sz:Nat} {x i:AO} (he:evalOp tab (.iadrS sz x i) t σ=some (p,σ')) (hp:p):∃δ:Dl,σ'=δ.app σ∧Local tab (.iadrS sz x i) t σ δ:=by
 have hi:∀σ2,Agree (rdO (.iadrS sz x i)) (foot σ (.iadrS sz x i)) σ σ2→σ2.ev i=σ.ev i:=fun σ2 h=>h.ev l2
 refine shape_local (x:=x) (F:=fun d σ=>oIadrS sz σ t (asV d) (asI (σ.ev i))) (fun _=>rfl) (fun σ2 h=>h.ev l1) ?_ (fun _=>by simp only[asV,oIadrS]) he hp
 intro d p σ' hx he hp
 cases hj:asI (σ.ev i)with
 |none=>simp only[hj]at he;unfold oIadrS at he;split at he<;>first|(rename_i e1;cases e1;done)|cases he
 |some j=>
  simp only[hj]at he
  unfold oIadrS at he
  split at he
  ·rename_i k xs j' e e2;cases e2
   split at he
   ·rename_i hc;cases he
    exact⟨_,rfl,fun σ2 h=>⟨_,by simp only[hi σ2 h,hj,e,oIadrS];rw[if_pos hc],hp⟩⟩
   ·cases he
  ·rename_i sz' l j' e e2;cases e2
   split at he
   ·rename_i hc;cases he
    exact⟨_,rfl,fun σ2 h=>⟨_,by simp only[hi σ2 h,hj,e,oIadrS];rw[if_pos hc],hp⟩⟩
   ·cases he
  ·rename_i id sz' off n cc j' e e2;cases e2
   split at he
   ·rename_i hc
    cases hG:look σ.G id with
    |none=>rw[hG]at he;simp[oIdR]at he
    |some r=>
     rw[hG]at he
     cases r<;>simp only[oIdR]at he<;>try (cases he;done)
     rename_i l
     cases he
     refine⟨_,rfl,fun σ2 h=> ?_⟩
     obtain⟨b,h5,h6⟩:=h.gs id _ hG
     cases b<;>try (simp[V.same]at h6;done)
     rename_i l2
     simp only[V.same]at h6
     refine⟨(0≤j∧j < (n:Int))∧off+j.toNat < l2.length∧∀x∈l2,V.size x=sz,?_,hp.1,by rw[←sameL_len h6];exact hp.2.1,(sameL_sizes (V.sameL_symm h6)).2 sz hp.2.2⟩
     simp only[hi σ2 h,hj,e,oIadrS];rw[if_pos hc,h5];rfl
   ·cases he
  ·cases he
theorem iadrG_local {n sz:Nat} {x i:AO} (he:evalOp tab (.iadrG n sz x i) t σ=some (p,σ')) (hp:p):∃δ:Dl,σ'=δ.app σ∧Local tab (.iadrG n sz x i) t σ δ:=by
 have hi:∀σ2,Agree (rdO (.iadrG n sz x i)) (foot σ (.iadrG n sz x i)) σ σ2→σ2.ev i=σ.ev i:=fun σ2 h=>h.ev l2
 cases hj:asI (σ.ev i)with
 |none=>
  have he:oIadrG tab n sz σ t (σ.ev x) (asI (σ.ev i))=some (p,σ'):=he
  rw[hj]at he;unfold oIadrG at he;split at he<;>first|(rename_i e1;cases e1;done)|cases he
 |some j=>
  refine shape_local (x:=x) (F:=fun d σ=>oIadrG tab n sz σ t d (asI (σ.ev i))) (fun _=>rfl) (fun σ2 h=>h.ev l1) ?_ (fun _=>by simp only[oIadrG]) he hp
  intro d p σ' hx he hp
  have hFt:foot σ (.iadrG n sz x i)=footS (σ.ev x):=rfl
  rw[hx]at hFt
  simp only[hj]at he
  unfold oIadrG at he
  split at he
  ·rename_i k q j' e e2;cases e;cases e2
   obtain⟨h1,y,h3,h4⟩:=oIdG_loc he hp
   refine⟨_,h1,fun σ2 h=> ?_⟩
   obtain⟨b,h5,h6⟩:=box_shape h (k:=k) (q:=q) (by rw[hFt];rfl) h3
   simp only[hi σ2 h,hj,oIadrG];rw[h5];exact h4 σ2 b h6
  ·rename_i id q j' e e2;cases e;cases e2
   obtain⟨h1,y,h3,h4⟩:=oIdG_loc he hp
   refine⟨_,h1,fun σ2 h=> ?_⟩
   obtain⟨b,h5,h6⟩:=obj_shape h (id:=id) (q:=q) h3
   simp only[hi σ2 h,hj,oIadrG];rw[h5];exact h4 σ2 b h6
  ·rename_i z j' e e2;cases e;cases e2
   cases z<;>simp only[oIdE]at he<;>try (cases he;done)
   split at he
   ·rename_i hc;cases he
    exact⟨_,rfl,fun σ2 h=>⟨_,by simp only[hi σ2 h,hj,oIadrG,oIdE];rw[if_pos hc],hp⟩⟩
   ·cases he
  ·cases he
theorem Local.box {o:PO} {k:Nat} {b:Bx} {e:AD×D} (hF:(foot σ o).w=some k) (hs:∀r,σ.L[k]? =some r→r.x.same b.x=true) (ht:e.1=t∨e.1= .no)
  (hgo:∀σ2,Agree (rdO o) (foot σ o) σ σ2→∃p2,evalOp tab o t σ2=some (p2,({ σ2 with L:=σ2.L.set k b }:St).put e.1 e.2)∧p2):Local tab o t σ ⟨(.no,.un),e,some (k,b),none⟩ where
 dst:=ht
 feed:=fun s hs=>by simp[adN]at hs
 mem:=fun k b h=>by cases h;exact .inl hF
 shp:=fun k b r h _ hr=>by cases h;exact hs r hr
 obj:=fun h=>by simp at h
 gsh:=fun id x h=>by cases h
 go:=hgo
theorem Local.obj' {o:PO} {id:Nat} {x:V} (hF:(foot σ o).gw=true) (hs:∃r,look σ.G id=some r∧r.same x=true)
  (hgo:∀σ2,Agree (rdO o) (foot σ o) σ σ2→∃p2,evalOp tab o t σ2=some (p2,{ σ2 with G:=Go.Abs.upd σ2.G id x })∧p2):Local tab o t σ ⟨(.no,.un),(.no,.un),none,some (id,x)⟩ where
 dst:= .inr rfl
 feed:=fun s hs=>by simp[adN]at hs
 mem:=fun k b h=>by cases h
 shp:=fun k b r h _ hr=>by cases h
 obj:=fun h=>hF
 gsh:=fun id x h=>by cases h;exact hs
 go:=hgo
end Go.Abs
namespace Go.Abs
open Go Go.RowKit
set_option linter.unusedVariables false
set_option linter.unusedSimpArgs false
variable {tab:List (Nat×V)} {t:AD} {σ σ':St} {p:Prop}
theorem store_local {n:Nat} {a x:AO} (he:evalOp tab (.store n a x) t σ=some (p,σ')) (hp:p):∃δ:Dl,σ'=δ.app σ∧Local tab (.store n a x) t σ δ:=by
 have ha:∀σ2,Agree (rdO (.store n a x)) (foot σ (.store n a x)) σ σ2→σ2.ev a=σ.ev a:=fun σ2 h=>h.ev l1
 have hx:∀σ2,Agree (rdO (.store n a x)) (foot σ (.store n a x)) σ σ2→σ2.ev x=σ.ev x:=fun σ2 h=>h.ev l2
 have hF:foot σ (.store n a x)=footW (σ.ev a):=rfl
 have he:oStore n σ (σ.ev a) (asV (σ.ev x))=some (p,σ'):=he
 have hgoal:∀σ2,evalOp tab (.store n a x) t σ2=oStore n σ2 (σ2.ev a) (asV (σ2.ev x)):=fun _=>rfl
 have hobj:∀{id:Nat} {q:List Nat} {y:V},(foot σ (.store n a x)).gw=true→(∀σ2,Agree (rdO (.store n a x)) (foot σ (.store n a x)) σ σ2→evalOp tab (.store n a x) t σ2=oStoH n id q σ2 y (look σ2.G id))→
   oStoH n id q σ y (look σ.G id)=some (p,σ')→∃δ:Dl,σ'=δ.app σ∧Local tab (.store n a x) t σ δ:=by
  intro id q y hgw hev h
  unfold oStoH at h
  split at h
  ·rename_i r hr
   unfold oStoG at h
   split at h
   ·rename_i z hz
    split at h
    ·rename_i hc;cases h
     refine⟨⟨(.no,.un),(.no,.un),none,some (id,z)⟩,rfl,Local.obj' hgw ⟨r,hr,V.same_symm (V.upd_same hz)⟩ fun σ2 h2=>⟨True,?_,trivial⟩⟩
     rw[hev σ2 h2,h2.g (.inr hgw),hr];simp only[oStoH,oStoG,hz];rw[if_pos hc,h2.g (.inr hgw)]
    ·cases h
   ·cases h
  ·cases h
 unfold oStore at he
 split at he
 ·rename_i k q y h1 h2
  unfold oStoB at he
  split at he
  ·rename_i r hr
   split at he
   ·cases he
   ·rename_i hfz
    unfold oStoL at he
    split at he
    ·rename_i z hz
     split at he
     ·rename_i hc;cases he
      have hw:(foot σ (.store n a x)).w=some k:=by rw[hF,h1];rfl
      refine⟨⟨(.no,.un),(.no,.un),some (k,⟨false,z⟩),none⟩,rfl,Local.box hw (fun r' hr'=> ?_) (.inr rfl) fun σ2 h=>⟨True,?_,trivial⟩⟩
      ·rw[hr]at hr';cases hr';exact V.same_symm (V.upd_same hz)
      ·rw[hgoal,ha σ2 h,hx σ2 h,h1,h2];simp only[oStore]
       rw[h.eq k (.inr (.inl hw)),hr];simp only[oStoB,hfz,oStoL,hz]
       rw[if_neg Bool.false_ne_true,if_pos hc];rfl
     ·cases he
    ·cases he
  ·cases he
 ·rename_i id q y h1 h2
  exact hobj (by rw[hF,h1];rfl) (fun σ2 h=>by rw[hgoal,ha σ2 h,hx σ2 h,h1,h2];rfl) he
 ·rename_i id y h1 h2
  exact hobj (q:=[]) (by rw[hF,h1];rfl) (fun σ2 h=>by rw[hgoal,ha σ2 h,hx σ2 h,h1,h2];rfl) he
 ·cases he
theorem copy_local {x y:AO} (he:evalOp tab (.copy x y) t σ=some (p,σ')) (hp:p):∃δ:Dl,σ'=δ.app σ∧Local tab (.copy x y) t σ δ:=by
 have hx:∀σ2,Agree (rdO (.copy x y)) (foot σ (.copy x y)) σ σ2→σ2.ev x=σ.ev x:=fun σ2 h=>h.ev l1
 have hy:∀σ2,Agree (rdO (.copy x y)) (foot σ (.copy x y)) σ σ2→σ2.ev y=σ.ev y:=fun σ2 h=>h.ev l2
 have hF:foot σ (.copy x y)=footW (σ.ev x):=rfl
 have hgoal:∀σ2,evalOp tab (.copy x y) t σ2=oCopy σ2 t (σ2.ev x) (asV (σ2.ev y)):=fun _=>rfl
 rw[hgoal]at he
 unfold oCopy at he
 split at he
 ·rename_i k q nn kk ys h1 h2
  unfold oCpy1 at he
  split at he
  ·rename_i r hr
   split at he
   ·cases he
   ·rename_i hfz
    unfold oCpy2 at he
    split at he
    ·rename_i kk' n xs hsub
     split at he
     ·rename_i hk
      unfold oCpy3 at he
      split at he
      ·rename_i z hz;cases he
       have hw:(foot σ (.copy x y)).w=some k:=by rw[hF,h1];rfl
       refine⟨⟨(.no,.un),(t,.v (.int .i64 ((min ys.length n:Nat):Int))),some (k,⟨false,z⟩),none⟩,rfl,Local.box hw (fun r' hr'=> ?_) (.inl rfl) fun σ2 h=>⟨True,?_,trivial⟩⟩
       ·rw[hr]at hr';cases hr';exact V.same_symm (V.upd_same hz)
       ·rw[hgoal,hx σ2 h,hy σ2 h,h1,h2];simp only[oCopy]
        rw[h.eq k (.inr (.inl hw)),hr];simp only[oCpy1,hfz,oCpy2,hsub,oCpy3,hz]
        rw[if_neg Bool.false_ne_true,if_pos hk]
      ·cases he
     ·cases he
    ·cases he
  ·cases he
 ·rename_i k q nn h1 h2;cases he
  exact⟨.slot t _,rfl,.slot fun σ2 h=>⟨True,by rw[hgoal,hx σ2 h,hy σ2 h,h1,h2];rfl,trivial⟩⟩
 ·cases he
theorem slcS_local {sz:Nat} {x:AO} {lo hi mx:Option AO} (he:evalOp tab (.slcS sz x lo hi mx) t σ=some (p,σ')) (hp:p):∃δ:Dl,σ'=δ.app σ∧Local tab (.slcS sz x lo hi mx) t σ δ:=by
 have hgoal:∀σ2,evalOp tab (.slcS sz x lo hi mx) t σ2=oSlcS sz lo hi mx σ2 t (asV (σ2.ev x)):=fun _=>rfl
 have hx:∀σ2,Agree (rdO (.slcS sz x lo hi mx)) (foot σ (.slcS sz x lo hi mx)) σ σ2→σ2.ev x=σ.ev x:=fun σ2 h=>h.ev fun t ht=>l1 t (l1 t (l1 t ht))
 have hl:∀σ2 d,Agree (rdO (.slcS sz x lo hi mx)) (foot σ (.slcS sz x lo hi mx)) σ σ2→σ2.opt lo d=σ.opt lo d:=fun σ2 d h=>opt_agree h (fun t ht=>l1 t (l1 t (l2 t ht))) d
 have hh:∀σ2 d,Agree (rdO (.slcS sz x lo hi mx)) (foot σ (.slcS sz x lo hi mx)) σ σ2→σ2.opt hi d=σ.opt hi d:=fun σ2 d h=>opt_agree h (fun t ht=>l1 t (l2 t ht)) d
 have hm:∀σ2,Agree (rdO (.slcS sz x lo hi mx)) (foot σ (.slcS sz x lo hi mx)) σ σ2→σ2.opt2 mx=σ.opt2 mx:=fun σ2 h=>opt2_agree h (fun t ht=>l2 t ht)
 rw[hgoal]at he
 unfold oSlcS at he
 split at he
 ·rename_i id sz' off n cc hy
  split at he
  ·rename_i hc
   cases hlo:σ.opt lo 0 with
   |none=>rw[hlo]at he;cases he
   |some l=>cases hhi:σ.opt hi (n:Int)with
    |none=>rw[hlo,hhi]at he;cases he
    |some r=>
     rw[hlo,hhi]at he;simp only[oSlcR]at he;cases he
     refine⟨_,rfl,.slot fun σ2 h=>⟨_,?_,hp⟩⟩
     rw[hgoal,hx σ2 h,hy];simp only[oSlcS]
     rw[if_pos hc,hl σ2 _ h,hh σ2 _ h,hlo,hhi];rfl
  ·rename_i hc
   split at he
   ·rename_i hc2
    cases hlo:σ.opt lo 0 with
    |none=>rw[hlo]at he;cases he
    |some l=>cases hhi:σ.opt hi (n:Int)with
     |none=>rw[hlo,hhi]at he;cases he
     |some r=>cases hmx:σ.opt2 mx with
      |none=>rw[hlo,hhi,hmx]at he;cases he
      |some qq=>cases qq with
       |none=>rw[hlo,hhi,hmx]at he;cases he
       |some q=>
        rw[hlo,hhi,hmx]at he;simp only[oSlcR3]at he;cases he
        refine⟨_,rfl,.slot fun σ2 h=>⟨_,?_,hp⟩⟩
        rw[hgoal,hx σ2 h,hy];simp only[oSlcS]
        rw[if_neg hc,if_pos hc2,hl σ2 _ h,hh σ2 _ h,hm σ2 h,hlo,hhi,hmx];rfl
   ·cases he
 ·rename_i y hne hy
  unfold oSlcS2 at he
  split at he
  ·rename_i n hn
   split at he
   ·cases he
   ·rename_i hc
    obtain⟨d,h1,h2⟩:=oSlcS3_loc _ _ _ _ _ _ _ _ _ _ _ he
    refine⟨.slot t d,h1,.slot fun σ2 h=>⟨p,?_,hp⟩⟩
    rw[hgoal,hx σ2 h,hy]
    have e1:∀σ3:St,oSlcS sz lo hi mx σ3 t (some y)=oSlcS2 sz lo hi mx y σ3 t y.lenI:=fun σ3=>by cases y<;>first|rfl|exact (hne _ _ _ _ _ rfl).elim
    rw[e1,hn];simp only[oSlcS2]
    rw[if_neg hc,hl σ2 _ h,hh σ2 _ h,hm σ2 h];exact h2 σ2
  ·cases he
 ·cases he
theorem slcT_local {x:AO} {lo hi:Option AO} (he:evalOp tab (.slcT x lo hi) t σ=some (p,σ')) (hp:p):∃δ:Dl,σ'=δ.app σ∧Local tab (.slcT x lo hi) t σ δ:=by
 have hgoal:∀σ2,evalOp tab (.slcT x lo hi) t σ2=oSlcT lo hi σ2 t (asV (σ2.ev x)):=fun _=>rfl
 have hx:∀σ2,Agree (rdO (.slcT x lo hi)) (foot σ (.slcT x lo hi)) σ σ2→σ2.ev x=σ.ev x:=fun σ2 h=>h.ev fun t ht=>l1 t (l1 t ht)
 have hl:∀σ2 d,Agree (rdO (.slcT x lo hi)) (foot σ (.slcT x lo hi)) σ σ2→σ2.opt lo d=σ.opt lo d:=fun σ2 d h=>opt_agree h (fun t ht=>l1 t (l2 t ht)) d
 have hh:∀σ2 d,Agree (rdO (.slcT x lo hi)) (foot σ (.slcT x lo hi)) σ σ2→σ2.opt hi d=σ.opt hi d:=fun σ2 d h=>opt_agree h (fun t ht=>l2 t ht) d
 rw[hgoal]at he
 unfold oSlcT at he
 split at he
 ·rename_i y hy
  obtain⟨d,h1,h2⟩:=oSlcT2_loc y t (_,_) _ _ _ he
  refine⟨.slot t d,h1,.slot fun σ2 h=>⟨p,?_,hp⟩⟩
  rw[hgoal,hx σ2 h,hy];simp only[oSlcT]
  rw[hl σ2 _ h,hh σ2 _ h];exact h2 σ2
 ·cases he
theorem slcA_local {n:Nat} {vw:Bool} {x:AO} {lo hi mx:Option AO} (he:evalOp tab (.slcA n vw x lo hi mx) t σ=some (p,σ')) (hp:p):∃δ:Dl,σ'=δ.app σ∧Local tab (.slcA n vw x lo hi mx) t σ δ:=by
 have hgoal:∀σ2,evalOp tab (.slcA n vw x lo hi mx) t σ2=oSlcA n vw lo hi mx σ2 t (σ2.ev x):=fun _=>rfl
 have hx:∀σ2,Agree (rdO (.slcA n vw x lo hi mx)) (foot σ (.slcA n vw x lo hi mx)) σ σ2→σ2.ev x=σ.ev x:=fun σ2 h=>h.ev fun t ht=>l1 t (l1 t (l1 t ht))
 have hl:∀σ2 d,Agree (rdO (.slcA n vw x lo hi mx)) (foot σ (.slcA n vw x lo hi mx)) σ σ2→σ2.opt lo d=σ.opt lo d:=fun σ2 d h=>opt_agree h (fun t ht=>l1 t (l1 t (l2 t ht))) d
 have hh:∀σ2 d,Agree (rdO (.slcA n vw x lo hi mx)) (foot σ (.slcA n vw x lo hi mx)) σ σ2→σ2.opt hi d=σ.opt hi d:=fun σ2 d h=>opt_agree h (fun t ht=>l1 t (l2 t ht)) d
 have hF:foot σ (.slcA n vw x lo hi mx)=if vw=true then footS (σ.ev x)else footW (σ.ev x):=rfl
 rw[hgoal]at he
 unfold oSlcA at he
 split at he
 ·rename_i k q h1
  split at he
  ·rename_i hmx
   unfold oSlcX at he
   split at he
   ·rename_i r hr
    unfold oSlcB at he
    split at he
    ·rename_i kk n' xs hsub
     split at he
     ·cases he
     ·rename_i hne
      split at he
      ·rename_i hvw
       split at he
       ·rename_i hc;cases he
        refine⟨.slot t (.vw k q n'),rfl,.slot fun σ2 h=>⟨True,?_,trivial⟩⟩
        obtain⟨r',h3,h4⟩:=h.sh k r (by rw[hF,if_pos hvw,h1];rfl) hr
        obtain⟨ys,h5⟩:=V.same_sub_arr h4 hsub
        rw[hgoal,hx σ2 h,h1];simp only[oSlcA]
        rw[if_pos hmx,h3];simp only[oSlcX,h5,oSlcB]
        rw[if_neg hne,if_pos hvw,if_pos hc]
       ·cases he
      ·rename_i hvw
       have hw:(foot σ (.slcA n vw x lo hi mx)).w=some k:=by rw[hF,if_neg hvw,h1];rfl
       unfold oSlcF at he
       split at he
       ·rename_i l hh' e1 e2;cases he
        refine⟨⟨(.no,.un),(t,.v (.sli kk ((xs.take hh'.toNat).drop l.toNat))),some (k,⟨true,r.x⟩),none⟩,rfl,Local.box hw (fun r' hr'=> ?_) (.inl rfl) fun σ2 h=>⟨_,?_,hp⟩⟩
        ·rw[hr]at hr';cases hr';exact V.same_refl _
        ·rw[hgoal,hx σ2 h,h1];simp only[oSlcA]
         rw[if_pos hmx,h.eq k (.inr (.inl hw)),hr];simp only[oSlcX,hsub,oSlcB]
         rw[if_neg hne,if_neg hvw,hl σ2 _ h,hh σ2 _ h,e1,e2];rfl
       ·cases he
    ·cases he
   ·cases he
  ·cases he
 ·cases he
end Go.Abs
namespace Go.Abs
open Go Go.RowKit
set_option linter.unusedVariables false
set_option linter.unusedSimpArgs false
variable {tab:List (Nat×V)} {t:AD} {σ σ':St} {p:Prop}
def noNew:PO→Bool
 | .alloc _=>false
 | .box _=>false
 | .appI .. =>false
 | .clr .. =>false
 | .atLd .. =>false
 | .atSt .. =>false
 | .atAdd .. =>false
 |_=>true
theorem op_local {o:PO} (hn:noNew o=true) (he:evalOp tab o t σ=some (p,σ')) (hp:p):∃δ:Dl,σ'=δ.app σ∧Local tab o t σ δ:=by
 cases o with
 |mv feeds x=>exact mv_local he hp
 |pick c a b=>cases he
 |alloc z=>cases hn
 |box x=>cases hn
 |allocAt r z=>exact fill_local (f:=fun _=>some z) (fun _=>rfl) (fun _ _=>rfl) rfl he hp
 |boxAt r x=>exact fill_local (f:=fun σ=>asV (σ.ev x)) (fun _=>rfl) (fun σ2 h=>by show asV _=asV _;rw[h.ev fun t ht=>ht]) rfl he hp
 |build z ps=>exact Local.of_fun (g:=fun y σ=>oBuild z σ t y) (f:=fun σ=>σ.parts ps) (fun _=>rfl) (fun σ2 h=>parts_agree h fun t ht=>ht) (oBuild_loc z t) he hp
 |buildS k sz z len ps=>exact Local.of_fun (g:=fun y σ=>oBuildS k sz z len σ t y) (f:=fun σ=>σ.parts ps) (fun _=>rfl) (fun σ2 h=>parts_agree h fun t ht=>ht) (oBuildS_loc k sz z len t) he hp
 |buildR k sz z len ps=>exact Local.of_fun (g:=fun y σ=>oBuildR k sz z len σ t y) (f:=fun σ=>σ.parts ps) (fun _=>rfl) (fun σ2 h=>parts_agree h fun t ht=>ht) (oBuildR_loc k sz z len t) he hp
 |cvt x=>exact cvt_local he hp
 |capN x=>exact Local.of_putVO (f:=fun σ=>capO (asV (σ.ev x))) (fun _=>rfl) (fun σ2 h=>by show capO _=capO _;rw[h.ev fun t ht=>ht]) he hp
 |appZ k sz bytes z x n=>exact appZ_local he hp
 |appG k sz bytes z x n=>exact Local.of_fun (g:=fun y σ=>oAppG k sz bytes z σ t y.1 y.2) (f:=fun σ=>(asV (σ.ev x),asI (σ.ev n))) (fun _=>rfl) (fun σ2 h=>by show (_,_)=(_,_);rw[h.ev l1,h.ev l2]) (oAppG_loc k sz bytes z t) he hp
 |cutG sz x h=>exact cutG_local he hp
 |load n ag x=>exact load_local he hp
 |store n a x=>exact store_local he hp
 |nilc x=>exact Local.of_fun (g:=fun y σ=>oNilc σ t y) (f:=fun σ=>σ.ev x) (fun _=>rfl) (fun σ2 h=>h.ev fun t ht=>ht) (oNilc_loc t) he hp
 |bin op x y=>exact Local.of_putPV (f:=fun σ=>binV op (asV (σ.ev x)) (asV (σ.ev y))) (fun _=>rfl) (fun σ2 h=>by show binV _ _ _=binV _ _ _;rw[h.ev l1,h.ev l2]) he hp
 |binB op x y=>exact Local.of_putPV (f:=fun σ=>binVB op (asV (σ.ev x)) (asV (σ.ev y))) (fun _=>rfl) (fun σ2 h=>by show binVB _ _ _=binVB _ _ _;rw[h.ev l1,h.ev l2]) he hp
 |binP op x y=>exact Local.of_putPV (f:=fun σ=>binVP op (asV (σ.ev x)) (asV (σ.ev y))) (fun _=>rfl) (fun σ2 h=>by show binVP _ _ _=binVP _ _ _;rw[h.ev l1,h.ev l2]) he hp
 |eqa neg e x y=>exact Local.of_fun (g:=fun y σ=>oEqa neg e σ t y.1 y.2) (f:=fun σ=>(asV (σ.ev x),asV (σ.ev y))) (fun _=>rfl) (fun σ2 h=>by show (_,_)=(_,_);rw[h.ev l1,h.ev l2]) (oEqa_loc neg e t) he hp
 |un op x=>exact Local.of_putVO (f:=fun σ=>unV op (asV (σ.ev x))) (fun _=>rfl) (fun σ2 h=>by show unV _ _=unV _ _;rw[h.ev fun t ht=>ht]) he hp
 |conv k x=>exact Local.of_fun (g:=fun y σ=>oConv k σ t y) (f:=fun σ=>asV (σ.ev x)) (fun _=>rfl) (fun σ2 h=>by show asV _=asV _;rw[h.ev fun t ht=>ht]) (oConv_loc k t) he hp
 |fadr f off x=>exact fadr_local he hp
 |fld f off n ag x=>exact Local.of_fun (g:=fun y σ=>oField f off n ag σ t y) (f:=fun σ=>asV (σ.ev x)) (fun _=>rfl) (fun σ2 h=>by show asV _=asV _;rw[h.ev fun t ht=>ht]) (oField_loc f off n ag t) he hp
 |iadrA n x i=>exact iadrA_local he hp
 |iadrG n sz x i=>exact iadrG_local he hp
 |iadrS sz x i=>exact iadrS_local he hp
 |idxS x i=>exact Local.of_fun (g:=fun y σ=>oIdxS σ t y.1 y.2) (f:=fun σ=>(asV (σ.ev x),asI (σ.ev i))) (fun _=>rfl) (fun σ2 h=>by show (_,_)=(_,_);rw[h.ev l1,h.ev l2]) (oIdxS_loc t) he hp
 |idxA n x i=>exact Local.of_fun (g:=fun y σ=>oIdxA n σ t y.1 y.2) (f:=fun σ=>(asV (σ.ev x),asI (σ.ev i))) (fun _=>rfl) (fun σ2 h=>by show (_,_)=(_,_);rw[h.ev l1,h.ev l2]) (oIdxA_loc n t) he hp
 |slcA n vw x lo hi mx=>exact slcA_local he hp
 |slcS sz x lo hi mx=>exact slcS_local he hp
 |slcT x lo hi=>exact slcT_local he hp
 |ext x i=>exact Local.of_fun (g:=fun y σ=>oExt i σ t y) (f:=fun σ=>σ.ev x) (fun _=>rfl) (fun σ2 h=>h.ev fun t ht=>ht) (oExt_loc i t) he hp
 |len x=>exact Local.of_putVO (f:=fun σ=>lenO (asV (σ.ev x))) (fun _=>rfl) (fun σ2 h=>by show lenO _=lenO _;rw[h.ev fun t ht=>ht]) he hp
 |lenT x=>exact Local.of_putVO (f:=fun σ=>lenT (asV (σ.ev x))) (fun _=>rfl) (fun σ2 h=>by show lenT _=lenT _;rw[h.ev fun t ht=>ht]) he hp
 |app k sz bytes x y=>exact app_local he hp
 |copy x y=>exact copy_local he hp
 |mkS k sz bytes z l c=>exact Local.of_fun (g:=fun y σ=>oMkS k sz bytes z σ t y.1 y.2) (f:=fun σ=>(asI (σ.ev l),asI (σ.ev c))) (fun _=>rfl) (fun σ2 h=>by show (_,_)=(_,_);rw[h.ev l1,h.ev l2]) (oMkS_loc k sz bytes z t) he hp
 |s2a n x=>exact Local.of_fun (g:=fun y σ=>oS2a n σ t y) (f:=fun σ=>asV (σ.ev x)) (fun _=>rfl) (fun σ2 h=>by show asV _=asV _;rw[h.ev fun t ht=>ht]) (oS2a_loc n t) he hp
 |mm mx xs=>exact Local.of_fun (g:=fun y σ=>oMM mx σ t y) (f:=fun σ=>σ.evs xs) (fun _=>rfl) (fun σ2 h=>evs_agree h fun t ht=>ht) (oMM_loc mx t) he hp
 |call g xs=>cases he
 |callW g xs=>cases he
 |nileq neg x=>cases he
 |new z=>cases he
 |newB x=>cases he
 |mkFn f xs=>exact Local.of_fun (g:=fun y σ=>oMkFn f σ t y) (f:=fun σ=>σ.evs xs) (fun _=>rfl) (fun σ2 h=>evs_agree h fun t ht=>ht) (oMkFn_loc f t) he hp
 |callV x xs=>cases he
 |appR sz bytes z x y=>cases he
 |appI sz x y=>cases hn
 |clr sz z x=>cases hn
 |slcZ x=>exact Local.of_fun (g:=fun y σ=>oSlcZ σ t y) (f:=fun σ=>lenIO (asV (σ.ev x))) (fun _=>rfl) (fun σ2 h=>by show lenIO _=lenIO _;rw[h.ev fun t ht=>ht]) (oSlcZ_loc t) he hp
 |s2b r x=>exact Local.of_fun (g:=fun y σ=>oS2b r σ t y) (f:=fun σ=>asV (σ.ev x)) (fun _=>rfl) (fun σ2 h=>by show asV _=asV _;rw[h.ev fun t ht=>ht]) (oS2b_loc r t) he hp
 |fad0 x=>exact Local.of_fun (g:=fun y σ=>oFad0 σ t y) (f:=fun σ=>asV (σ.ev x)) (fun _=>rfl) (fun σ2 h=>by show asV _=asV _;rw[h.ev fun t ht=>ht]) (oFad0_loc t) he hp
 |atLd x=>cases hn
 |atSt a x=>cases hn
 |atAdd a x=>cases hn
 |bad=>cases he
end Go.Abs
namespace Go.Abs
open Go Go.RowKit
set_option linter.unusedVariables false
set_option linter.unusedSimpArgs false
structure Eqv (σ σ2:St):Prop where
 vs:σ2.vs=σ.vs
 ts:∀t,look σ2.ts t=look σ.ts t
 L:σ2.L=σ.L
 G:σ2.G=σ.G
theorem Eqv.refl (σ:St):Eqv σ σ:=⟨rfl,fun _=>rfl,rfl,rfl⟩
theorem Eqv.symm {σ σ2:St} (h:Eqv σ σ2):Eqv σ2 σ:=⟨h.vs.symm,fun t=>(h.ts t).symm,h.L.symm,h.G.symm⟩
theorem Eqv.trans {σ σ2 σ3:St} (h:Eqv σ σ2) (h':Eqv σ2 σ3):Eqv σ σ3:=⟨h'.vs.trans h.vs,fun t=>(h'.ts t).trans (h.ts t),h'.L.trans h.L,h'.G.trans h.G⟩
theorem Eqv.ev {σ σ2:St} (h:Eqv σ σ2) (x:AO):σ2.ev x=σ.ev x:=by
 cases x with
 |v t=>simp only[St.ev,h.vs]
 |t t=>exact h.ts t
 |c d=>rfl
theorem Eqv.put {σ σ2:St} (h:Eqv σ σ2) (t:AD) (d:D):Eqv (σ.put t d) (σ2.put t d):=by
 cases t with
 |v t=>exact⟨by simp only[St.put,St.putV,h.vs],h.ts,h.L,h.G⟩
 |t t=>exact⟨h.vs,fun s=>by simp only[St.put,St.putT,look_cons,h.ts],h.L,h.G⟩
 |no=>exact h
theorem Eqv.agree {σ σ2:St} (h:Eqv σ σ2) (rd:List Nat) (F:Foot):Agree rd F σ σ2:=
 ⟨fun t _=>⟨by rw[h.vs],h.ts t⟩,by rw[h.L],fun k _=>by rw[h.L],fun k r _ hr=>⟨r,by rw[h.L];exact hr,V.same_refl _⟩,fun _=>h.G,fun id r hr=>⟨r,by rw[h.G];exact hr,V.same_refl _⟩⟩
theorem Agree.trans {rd F} {σ σ2 σ3:St} (h:Agree rd F σ σ2) (h':Agree rd F σ2 σ3):Agree rd F σ σ3 where
 v:=fun t ht=>⟨(h'.v t ht).1.trans (h.v t ht).1,(h'.v t ht).2.trans (h.v t ht).2⟩
 len:=h'.len.trans h.len
 eq:=fun k hk=>(h'.eq k hk).trans (h.eq k hk)
 sh:=fun k r hk hr=>by
  obtain⟨r1,h1,h2⟩:=h.sh k r hk hr
  obtain⟨r2,h3,h4⟩:=h'.sh k r1 hk h1
  exact⟨r2,h3,V.same_trans' h2 h4⟩
 g:=fun hg=>(h'.g hg).trans (h.g hg)
 gs:=fun id r hr=>by
  obtain⟨r1,h1,h2⟩:=h.gs id r hr
  obtain⟨r2,h3,h4⟩:=h'.gs id r1 h1
  exact⟨r2,h3,V.same_trans' h2 h4⟩
theorem getv_set_self:∀{l:List (Option D)} {t:Nat} {d:D},getv l t=some d→l.set t (some d)=l
 |[],t,d,h=>rfl
 |o::l,0,d,h=>by simp only[getv]at h;subst h;rfl
 |o::l,t+1,d,h=>by simp only[getv]at h;simp only[List.set_cons_succ,getv_set_self h]
theorem getv_set_ne:∀{l:List (Option D)} {t s:Nat} {x:Option D},s≠t→getv (l.set t x) s=getv l s
 |[],t,s,x,h=>rfl
 |o::l,0,0,x,h=>absurd rfl h
 |o::l,0,s+1,x,h=>rfl
 |o::l,t+1,0,x,h=>rfl
 |o::l,t+1,s+1,x,h=>by simp only[List.set_cons_succ,getv];exact getv_set_ne (fun e=>h (by rw[e]))
theorem eqv_again {σ:St} {x:AO} {d:D} (h:σ.ev x=some d):Eqv σ (σ.put x.ad d):=by
 cases x with
 |v t=>exact⟨getv_set_self h,fun _=>rfl,rfl,rfl⟩
 |t t=>
  refine⟨rfl,fun s=> ?_,rfl,rfl⟩
  simp only[AO.ad,St.put,St.putT,look_cons]
  by_cases e:s=t
  ·subst e;rw[if_pos rfl];exact h.symm
  ·rw[if_neg e]
 |c d=>exact Eqv.refl _
theorem put_read {σ:St} {t:AD} {d:D} {s:Nat} (h:s∉adN t):getv (σ.put t d).vs s=getv σ.vs s∧look (σ.put t d).ts s=look σ.ts s:=by
 cases t with
 |v t=>exact⟨getv_set_ne (fun e=>h (by simp[adN,e])),rfl⟩
 |t t=>exact⟨rfl,by simp only[St.put,St.putT,look_cons];rw[if_neg (fun e=>h (by simp[adN,e]))]⟩
 |no=>exact⟨rfl,rfl⟩
theorem put_comm {σ:St} {t u:AD} {d e:D} (h:∀s∈adN t,s∉adN u):Eqv ((σ.put t d).put u e) ((σ.put u e).put t d):=by
 cases t with
 |no=>exact Eqv.refl _
 |v t=>
  cases u with
  |no=>exact Eqv.refl _
  |t u=>exact Eqv.refl _
  |v u=>
   have hne:t≠u:=fun e=>h t (by simp[adN]) (by simp[adN,e])
   exact⟨by simp only[St.put,St.putV];exact List.set_comm _ _ (fun e=>hne e.symm),fun _=>rfl,rfl,rfl⟩
 |t t=>
  cases u with
  |no=>exact Eqv.refl _
  |v u=>exact Eqv.refl _
  |t u=>
   have hne:t≠u:=fun e=>h t (by simp[adN]) (by simp[adN,e])
   refine⟨rfl,fun s=> ?_,rfl,rfl⟩
   simp only[St.put,St.putT,look_cons]
   by_cases e1:s=t
   ·subst e1;rw[if_pos rfl,if_neg hne,if_pos rfl]
   ·rw[if_neg e1];by_cases e2:s=u
    ·rw[if_pos e2];rw[if_pos e2]
    ·rw[if_neg e2,if_neg e2,if_neg e1]
def Dl.mem (δ:Dl) (σ:St):St:={ σ with L:=memL δ.L σ.L,G:=memG δ.G σ.G }
theorem app_eq (δ:Dl) (σ:St):δ.app σ=((δ.mem σ).put δ.f.1 δ.f.2).put δ.d.1 δ.d.2:=rfl
theorem mem_put (δ:Dl) (σ:St) (t:AD) (d:D):δ.mem (σ.put t d)=(δ.mem σ).put t d:=by cases t<;>rfl
theorem put_L (σ:St) (t:AD) (d:D):(σ.put t d).L=σ.L:=by cases t<;>rfl
theorem put_G (σ:St) (t:AD) (d:D):(σ.put t d).G=σ.G:=by cases t<;>rfl
theorem app_L (δ:Dl) (σ:St):(δ.app σ).L=memL δ.L σ.L:=by rw[app_eq,put_L,put_L];rfl
theorem app_G (δ:Dl) (σ:St):(δ.app σ).G=memG δ.G σ.G:=by rw[app_eq,put_G,put_G];rfl
theorem Eqv.mem {σ σ2:St} (h:Eqv σ σ2) (δ:Dl):Eqv (δ.mem σ) (δ.mem σ2):=⟨h.vs,h.ts,by simp only[Dl.mem,h.L],by simp only[Dl.mem,h.G]⟩
theorem Eqv.app {σ σ2:St} (h:Eqv σ σ2) (δ:Dl):Eqv (δ.app σ) (δ.app σ2):=((h.mem δ).put _ _).put _ _
def Dl.wr (δ:Dl):List Nat:=adN δ.d.1++adN δ.f.1
structure Meet (δ ε:Dl):Prop where
 wr:∀s∈δ.wr,s∉ε.wr
 L:∀k b l c,δ.L=some (k,b)→ε.L=some (l,c)→k≠l
 G:δ.G=none∨ε.G=none
theorem app_comm {δ ε:Dl} (h:Meet δ ε) (σ:St):Eqv (δ.app (ε.app σ)) (ε.app (δ.app σ)):=by
 have hm:δ.mem (ε.mem σ)=ε.mem (δ.mem σ):=by
  have hL:memL δ.L (memL ε.L σ.L)=memL ε.L (memL δ.L σ.L):=by
   cases h1:δ.L with
   |none=>rfl
   |some a=>
    cases h2:ε.L with
    |none=>rfl
    |some b=>obtain⟨k,x⟩:=a;obtain⟨l,y⟩:=b;simp only[memL];exact List.set_comm _ _ (fun e=>h.L k x l y h1 h2 e.symm)
  have hG:memG δ.G (memG ε.G σ.G)=memG ε.G (memG δ.G σ.G):=by rcases h.G with h|h<;>rw[h]<;>rfl
  show St.mk _ _ _ _=St.mk _ _ _ _
  rw[show memL δ.L (ε.mem σ).L=memL ε.L (δ.mem σ).L from hL,show memG δ.G (ε.mem σ).G=memG ε.G (δ.mem σ).G from hG];rfl
 have w1:∀s∈adN δ.d.1,s∉adN ε.d.1:=fun s h1 h2=>h.wr s (l1 s h1) (l1 s h2)
 have w2:∀s∈adN δ.d.1,s∉adN ε.f.1:=fun s h1 h2=>h.wr s (l1 s h1) (l2 s h2)
 have w3:∀s∈adN δ.f.1,s∉adN ε.d.1:=fun s h1 h2=>h.wr s (l2 s h1) (l1 s h2)
 have w4:∀s∈adN δ.f.1,s∉adN ε.f.1:=fun s h1 h2=>h.wr s (l2 s h1) (l2 s h2)
 have c1:∀{σ:St} {a b:D},Eqv ((σ.put ε.f.1 a).put δ.f.1 b) ((σ.put δ.f.1 b).put ε.f.1 a):=(put_comm w4).symm
 have c2:∀{σ:St} {a b:D},Eqv ((σ.put ε.d.1 a).put δ.f.1 b) ((σ.put δ.f.1 b).put ε.d.1 a):=(put_comm w3).symm
 have c3:∀{σ:St} {a b:D},Eqv ((σ.put ε.f.1 a).put δ.d.1 b) ((σ.put δ.d.1 b).put ε.f.1 a):=(put_comm w2).symm
 have c4:∀{σ:St} {a b:D},Eqv ((σ.put ε.d.1 a).put δ.d.1 b) ((σ.put δ.d.1 b).put ε.d.1 a):=(put_comm w1).symm
 rw[app_eq δ,app_eq ε,mem_put,mem_put,app_eq ε (δ.app σ),app_eq δ σ,mem_put,mem_put,hm]
 refine (c2.put _ _).trans ?_
 refine ((c1.put _ _).put _ _).trans ?_
 refine c4.trans ?_
 exact c3.put _ _
structure Leaves (rd:List Nat) (F:Foot) (σ:St) (ε:Dl):Prop where
 wr:∀s∈ε.wr,s∉rd
 L:∀k b,ε.L=some (k,b)→F.r≠some k∧F.w≠some k∧F.n≠some k∧(F.s=some k→∀r,σ.L[k]? =some r→r.x.same b.x=true)
 G:ε.G.isSome=true→F.gr=false∧F.gw=false
 gsh:∀id x,ε.G=some (id,x)→∃r,look σ.G id=some r∧r.same x=true
theorem app_read {ε:Dl} {σ:St} {s:Nat} (h:s∉ε.wr):getv (ε.app σ).vs s=getv σ.vs s∧look (ε.app σ).ts s=look σ.ts s:=by
 rw[app_eq]
 have h1:s∉adN ε.d.1:=fun e=>h (l1 s e)
 have h2:s∉adN ε.f.1:=fun e=>h (l2 s e)
 exact⟨(put_read h1).1.trans (put_read h2).1,(put_read h1).2.trans (put_read h2).2⟩
theorem memL_len (o:Option (Nat×Bx)) (l:List Bx):(memL o l).length=l.length:=by cases o<;>simp[memL]
theorem memL_ne {o:Option (Nat×Bx)} {l:List Bx} {k:Nat} (h:∀b,o≠some (k,b)):(memL o l)[k]? =l[k]? :=by
 cases o with
 |none=>rfl
 |some a=>
  obtain⟨j,b⟩:=a
  have:j≠k:=fun e=>h b (by rw[e])
  simp only[memL];exact List.getElem?_set_ne this
theorem Leaves.agree {rd F σ ε} (h:Leaves rd F σ ε):Agree rd F σ (ε.app σ)∧Agree rd F (ε.app σ) σ:=by
 have hv:∀t∈rd,getv (ε.app σ).vs t=getv σ.vs t∧look (ε.app σ).ts t=look σ.ts t:=fun t ht=>app_read (fun hw=>h.wr t hw ht)
 have hlen:(ε.app σ).L.length=σ.L.length:=by rw[app_L,memL_len]
 have heq:∀k,F.r=some k∨F.w=some k∨F.n=some k→(ε.app σ).L[k]? =σ.L[k]? :=by
  intro k hk;rw[app_L]
  refine memL_ne fun b hb=> ?_
  obtain⟨h1,h2,h3,_⟩:=h.L k b hb
  rcases hk with hk|hk|hk
  ·exact h1 hk
  ·exact h2 hk
  ·exact h3 hk
 have hg:F.gr=true∨F.gw=true→(ε.app σ).G=σ.G:=by
  intro hg;rw[app_G]
  cases hε:ε.G with
  |none=>rfl
  |some a=>
   obtain⟨h1,h2⟩:=h.G (by rw[hε];rfl)
   rcases hg with hg|hg
   ·rw[h1]at hg;cases hg
   ·rw[h2]at hg;cases hg
 constructor
 ·refine⟨hv,hlen,heq,fun k r hk hr=> ?_,hg,fun id r hr=> ?_⟩
  ·rw[app_L]
   cases hε:ε.L with
   |none=>exact⟨r,hr,V.same_refl _⟩
   |some a=>
    obtain⟨j,b⟩:=a
    by_cases e:j=k
    ·subst e
     obtain⟨_,_,_,h4⟩:=h.L j b hε
     exact⟨b,by simp only[memL];rw[List.getElem?_set_self (List.getElem?_eq_some_iff.1 hr).1],h4 hk r hr⟩
    ·exact⟨r,by simp only[memL];rw[List.getElem?_set_ne e];exact hr,V.same_refl _⟩
  ·rw[app_G]
   cases hε:ε.G with
   |none=>exact⟨r,hr,V.same_refl _⟩
   |some a=>
    obtain⟨j,x⟩:=a
    simp only[memG,look_upd]
    by_cases e:id=j
    ·subst e
     obtain⟨r0,h1,h2⟩:=h.gsh id x hε
     rw[hr]at h1;cases h1
     exact⟨x,by rw[if_pos rfl,hr];rfl,h2⟩
    ·exact⟨r,by rw[if_neg e];exact hr,V.same_refl _⟩
 ·refine⟨fun t ht=>⟨(hv t ht).1.symm,(hv t ht).2.symm⟩,hlen.symm,fun k hk=>(heq k hk).symm,fun k r hk hr=> ?_,fun hgg=>(hg hgg).symm,fun id r hr=> ?_⟩
  ·rw[app_L]at hr
   cases hε:ε.L with
   |none=>rw[hε]at hr;exact⟨r,hr,V.same_refl _⟩
   |some a=>
    obtain⟨j,b⟩:=a
    rw[hε]at hr;simp only[memL]at hr
    by_cases e:j=k
    ·subst e
     have hlt:j < σ.L.length:=by have:=(List.getElem?_eq_some_iff.1 hr).1;simpa using this
     rw[List.getElem?_set_self hlt]at hr;cases hr
     obtain⟨_,_,_,h4⟩:=h.L j r hε
     exact⟨σ.L[j],List.getElem?_eq_getElem hlt,V.same_symm (h4 hk _ (List.getElem?_eq_getElem hlt))⟩
    ·rw[List.getElem?_set_ne e]at hr;exact⟨r,hr,V.same_refl _⟩
  ·rw[app_G]at hr
   cases hε:ε.G with
   |none=>rw[hε]at hr;exact⟨r,hr,V.same_refl _⟩
   |some a=>
    obtain⟨j,x⟩:=a
    rw[hε]at hr;simp only[memG,look_upd]at hr
    by_cases e:id=j
    ·subst e
     obtain⟨r0,h1,h2⟩:=h.gsh id x hε
     rw[if_pos rfl,h1]at hr;cases hr
     exact⟨r0,h1,V.same_symm h2⟩
    ·rw[if_neg e]at hr;exact⟨r,hr,V.same_refl _⟩
end Go.Abs
namespace Go.Abs
open Go Go.RowKit
set_option linter.unusedVariables false
set_option linter.unusedSimpArgs false
def Spec.Det (C:Spec):Prop:=∀g vs G (Q:R→Prop),C g vs G (fun r G'=>G'=G∧Q r)→∃r,Q r∧∀Q':R→List (Nat×V)→Prop,Q' r G→C g vs G Q'
variable {E:Env} {C:Spec}
structure LocW (E:Env) (C:Spec) (o:PO) (t:AD) (σ:St) (δ:Dl):Prop where
 dst:δ.d.1=t∨δ.d.1= .no
 feed:∀s∈adN δ.f.1,s∈fdO o
 mem:∀k b,δ.L=some (k,b)→(foot σ o).w=some k∨(foot σ o).n=some k
 shp:∀k b r,δ.L=some (k,b)→(foot σ o).n≠some k→σ.L[k]? =some r→r.x.same b.x=true
 obj:δ.G.isSome=true→(foot σ o).gw=true
 gsh:∀id x,δ.G=some (id,x)→∃r,look σ.G id=some r∧r.same x=true
 go:∀σ2,Agree (rdO o) (foot σ o) σ σ2→WopD E C t o (fun τ=>τ=δ.app σ2) σ2
theorem LocW.slot {o:PO} {t:AD} {σ:St} {d:D} (h:∀σ2,Agree (rdO o) (foot σ o) σ σ2→WopD E C t o (fun τ=>τ=σ2.put t d) σ2):LocW E C o t σ (Dl.slot t d) where
 dst:= .inl rfl
 feed:=fun s hs=>by simp[Dl.slot,adN]at hs
 mem:=fun k b h=>by cases h
 shp:=fun k b r h=>by cases h
 obj:=fun h=>by simp[Dl.slot]at h
 gsh:=fun id x h=>by cases h
 go:=h
theorem wopD_local (hdet:C.Det) {o:PO} {t:AD} {K:St→Prop} {σ:St} (h:WopD E C t o K σ):∃δ:Dl,LocW E C o t σ δ∧K (δ.app σ):=by
 have gen:noNew o=true→(∀K σ,WopD E C t o K σ=ranO (evalOp E.tab o t σ) K)→∃δ:Dl,LocW E C o t σ δ∧K (δ.app σ):=by
  intro hn heq
  rw[heq]at h
  obtain⟨p,σ',h1,h2,h3⟩:=ranO_spec h
  obtain⟨δ,rfl,hl⟩:=op_local hn h1 h2
  refine⟨δ,⟨hl.dst,hl.feed,hl.mem,hl.shp,hl.obj,hl.gsh,fun σ2 ha=> ?_⟩,h3⟩
  obtain⟨p2,h4,h5⟩:=hl.go σ2 ha
  rw[heq,h4];exact⟨h5,rfl⟩
 cases o with
 |pick c a b=>
  have h:pickO (asB (σ.ev c)) (asV (σ.ev a)) (asV (σ.ev b)) t K σ:=h
  have hev:∀σ2,Agree (rdO (.pick c a b)) (foot σ (.pick c a b)) σ σ2→∀K,WopD E C t (.pick c a b) K σ2=pickO (asB (σ.ev c)) (asV (σ.ev a)) (asV (σ.ev b)) t K σ2:=by
   intro σ2 ha K
   show pickO _ _ _ _ _ _=_
   rw[ha.ev (x:=c) (fun t ht=>l1 t (l1 t ht)),ha.ev (x:=a) (fun t ht=>l1 t (l2 t ht)),ha.ev (x:=b) (fun t ht=>l2 t ht)]
  unfold pickO at h
  split at h
  ·rename_i e1
   split at h
   ·rename_i x e2
    exact⟨.slot t (.v x),.slot fun σ2 ha=>by rw[hev σ2 ha,e1,e2];exact rfl,h⟩
   ·exact h.elim
  ·rename_i e1
   split at h
   ·rename_i x e2
    exact⟨.slot t (.v x),.slot fun σ2 ha=>by rw[hev σ2 ha,e1,e2];exact rfl,h⟩
   ·exact h.elim
  ·exact h.elim
 |call g xs=>
  have h:callDO C g (σ.evs xs) K σ t:=h
  unfold callDO at h
  split at h
  ·rename_i vs hvs
   obtain⟨r,h2,h3⟩:=hdet _ _ _ (fun r=>K (σ.put t r.D)) h
   refine⟨.slot t r.D,.slot fun σ2 ha=> ?_,h2⟩
   show callDO C g (σ2.evs xs) _ σ2 t
   rw[evs_agree ha fun t ht=>ht,hvs]
   have hG:σ2.G=σ.G:=ha.g (.inl rfl)
   show C g vs σ2.G _
   rw[hG]
   exact h3 _ ⟨rfl,rfl⟩
  ·exact h.elim
 |callW g xs=>exact False.elim h
 |nileq neg x=>exact False.elim h
 |new z=>exact False.elim h
 |callV x xs=>
  have h:callVD C (calleeOk E.P) K σ t (asV (σ.ev x)) (σ.evs xs):=h
  unfold callVD at h
  split at h
  ·rename_i f caps vs hx hvs
   obtain⟨hok,h⟩:=h
   obtain⟨r,h2,h3⟩:=hdet _ _ _ (fun r=>K (σ.put t r.D)) h
   refine⟨.slot t r.D,.slot fun σ2 ha=> ?_,h2⟩
   show callVD C (calleeOk E.P) _ σ2 t (asV (σ2.ev x)) (σ2.evs xs)
   rw[ha.ev (x:=x) (fun t ht=>l1 t ht),evs_agree ha fun t ht=>l2 t ht,hvs,hx]
   have hG:σ2.G=σ.G:=ha.g (.inl rfl)
   refine⟨hok,?_⟩
   show C f (vs++caps) σ2.G _
   rw[hG]
   exact h3 _ ⟨rfl,rfl⟩
  ·exact h.elim
 |appR sz bytes z x y=>exact False.elim h
 |appI sz x y=>exact False.elim h
 |clr sz z x=>exact False.elim h
 |atLd x=>exact False.elim h
 |atSt a x=>exact False.elim h
 |atAdd a x=>exact False.elim h
 |newB x=>exact False.elim h
 |alloc z=>exact False.elim h
 |box x=>exact False.elim h
 |bad=>exact False.elim h
 |_=>exact gen rfl (fun _ _=>rfl)
def StepD (E:Env) (C:Spec) (i:PI) (K:Foot→St→Prop) (σ:St):Prop:=match i.guard with
 |none=>WopD E C i.dst i.op (K (foot σ i.op)) σ
 |some (t,want)=>guardO t want (σ.ev t) (WopD E C i.dst i.op (K (foot σ i.op))) (skipK i.dst (K noF)) σ
theorem WopsD_step {i:PI} {r:List PI} {fs:List Foot} {K:List Foot→St→Prop} {σ:St}:WopsD E C (i::r) fs K σ=StepD E C i (fun f=>WopsD E C r (fs++[f]) K) σ:=by
 obtain⟨d,o,g⟩:=i
 cases g with
 |none=>rfl
 |some q=>rfl
structure LocI (E:Env) (C:Spec) (i:PI) (F:Foot) (σ:St) (δ:Dl):Prop where
 wr:∀s∈δ.wr,s∈i.wr
 mem:∀k b,δ.L=some (k,b)→F.w=some k∨F.n=some k
 shp:∀k b r,δ.L=some (k,b)→F.n≠some k→σ.L[k]? =some r→r.x.same b.x=true
 obj:δ.G.isSome=true→F.gw=true
 gsh:∀id x,δ.G=some (id,x)→∃r,look σ.G id=some r∧r.same x=true
 go:∀σ2,Agree i.rd F σ σ2→StepD E C i (fun _ τ=>Eqv (δ.app σ2) τ) σ2
theorem LocI.agree {i:PI} {F:Foot} {σ σ2:St} {δ:Dl} (h:LocI E C i F σ δ) (ha:Agree i.rd F σ σ2):LocI E C i F σ2 δ where
 wr:=h.wr
 mem:=h.mem
 shp:=fun k b r hk hn hr=>by
  rcases h.mem k b hk with hw|hw
  ·rw[ha.eq k (.inr (.inl hw))]at hr;exact h.shp k b r hk hn hr
  ·exact absurd hw hn
 obj:=h.obj
 gsh:=fun id x hx=>by
  have hg:=h.obj (by rw[hx];rfl)
  rw[ha.g (.inr hg)];exact h.gsh id x hx
 go:=fun σ3 h3=>h.go σ3 (ha.trans h3)
theorem foot_eqv {σ σ2:St} (h:Eqv σ σ2) (o:PO):foot σ2 o=foot σ o:=by
 cases o<;>simp only[foot,h.ev,h.L]
theorem Eqv.agreeG {σ σ2:St} {x:AO} {d:D} (h:σ.ev x=some d) (h2:σ2.ev x=some d) {rd F} (ha:Agree rd F σ σ2):Agree rd F (σ.put x.ad d) (σ2.put x.ad d):=
 (((eqv_again h).symm.agree rd F).trans ha).trans ((eqv_again h2).agree rd F)
theorem Agree.sub {rd rd':List Nat} {F:Foot} {σ σ2:St} (h:Agree rd F σ σ2) (hs:∀t∈rd',t∈rd):Agree rd' F σ σ2:=⟨fun t ht=>h.v t (hs t ht),h.len,h.eq,h.sh,h.g,h.gs⟩
theorem wopD_mono {o:PO} {t:AD} {K K':St→Prop} {σ:St} (hdet:C.Det) (h:WopD E C t o K σ) (hK:∀τ,K τ→K' τ):WopD E C t o K' σ:=by
 obtain⟨δ,h1,h2⟩:=wopD_local hdet h
 have h3:=h1.go σ (Agree.refl _ _ _)
 have gen:(∀K,WopD E C t o K σ=ranO (evalOp E.tab o t σ) K)→WopD E C t o K' σ:=by
  intro heq
  rw[heq]at h⊢
  obtain⟨p,σ',h1,h2,h3⟩:=ranO_spec h
  rw[h1];exact⟨h2,hK _ h3⟩
 cases o with
 |pick c a b=>
  have h:pickO (asB (σ.ev c)) (asV (σ.ev a)) (asV (σ.ev b)) t K σ:=h
  show pickO (asB (σ.ev c)) (asV (σ.ev a)) (asV (σ.ev b)) t K' σ
  unfold pickO at*
  split at h
  ·rename_i e1
   split at h
   ·exact hK _ h
   ·exact h.elim
  ·rename_i e1
   split at h
   ·exact hK _ h
   ·exact h.elim
  ·exact h.elim
 |call g xs=>
  have h:callDO C g (σ.evs xs) K σ t:=h
  show callDO C g (σ.evs xs) K' σ t
  unfold callDO at*
  split at h
  ·rename_i vs hvs
   obtain⟨r,h2,h3⟩:=hdet _ _ _ (fun r=>K (σ.put t r.D)) h
   exact h3 _ ⟨rfl,hK _ h2⟩
  ·exact h.elim
 |callW g xs=>exact False.elim h
 |nileq neg x=>exact False.elim h
 |new z=>exact False.elim h
 |callV x xs=>
  have h:callVD C (calleeOk E.P) K σ t (asV (σ.ev x)) (σ.evs xs):=h
  show callVD C (calleeOk E.P) K' σ t (asV (σ.ev x)) (σ.evs xs)
  unfold callVD at*
  split at h
  ·rename_i f caps vs hx hvs
   obtain⟨hok,h⟩:=h
   obtain⟨r,h2,h3⟩:=hdet _ _ _ (fun r=>K (σ.put t r.D)) h
   exact⟨hok,h3 _ ⟨rfl,hK _ h2⟩⟩
  ·exact h.elim
 |appR sz bytes z x y=>exact False.elim h
 |appI sz x y=>exact False.elim h
 |clr sz z x=>exact False.elim h
 |atLd x=>exact False.elim h
 |atSt a x=>exact False.elim h
 |atAdd a x=>exact False.elim h
 |newB x=>exact False.elim h
 |alloc z=>exact False.elim h
 |box x=>exact False.elim h
 |bad=>exact False.elim h
 |_=>exact gen (fun _=>rfl)
theorem LocW.wrs {o:PO} {t:AD} {σ:St} {δ:Dl} (h:LocW E C o t σ δ) {i:PI} (ho:i.op=o) (ht:i.dst=t):∀s∈δ.wr,s∈i.wr:=by
 intro s hs
 subst ho;subst ht
 unfold Dl.wr at hs;unfold PI.wr
 rcases List.mem_append.1 hs with h1|h1
 ·rcases h.dst with h2|h2
  ·rw[h2]at h1;exact l1 s h1
  ·rw[h2]at h1;simp[adN]at h1
 ·exact l2 s (h.feed s h1)
theorem skip_loc {i:PI} {t:AO} {want:Bool} {σ:St} {d:D} (hg:i.guard=some (t,want)) (hd:σ.ev t=some d) (hs:∀f h σ2,guardO t want (some d) f h σ2=h σ2∨guardO t want (some d) f h σ2=h (σ2.put t.ad d)):
  LocI E C i noF σ (Dl.slot i.dst .un) where
 wr:=fun s h=>by
  simp only[Dl.wr,Dl.slot,adN,List.append_nil]at h
  exact l1 s h
 mem:=fun k b h=>by cases h
 shp:=fun k b r h=>by cases h
 obj:=fun h=>by simp[Dl.slot]at h
 gsh:=fun id x h=>by cases h
 go:=fun σ2 ha=>by
  have he:σ2.ev t=σ.ev t:=ha.ev (fun s hs=>by unfold PI.rd;rw[hg];exact l2 s hs)
  have hd2:σ2.ev t=some d:=he.trans hd
  unfold StepD;rw[hg];simp only[hd2]
  rcases hs (WopD E C i.dst i.op fun τ=>Eqv ((Dl.slot i.dst .un).app σ2) τ) (skipK i.dst fun τ=>Eqv ((Dl.slot i.dst .un).app σ2) τ) σ2 with h|h
  ·rw[h];exact Eqv.refl _
  ·rw[h];exact ((eqv_again hd2).put i.dst .un)
theorem stepD_local (hdet:C.Det) {i:PI} {K:Foot→St→Prop} {σ:St} (h:StepD E C i K σ):∃(F:Foot) (δ:Dl) (τ:St),(F=foot σ i.op∨F=noF)∧LocI E C i F σ δ∧Eqv (δ.app σ) τ∧K F τ:=by
 cases hg:i.guard with
 |none=>
  unfold StepD at h;rw[hg]at h
  obtain⟨δ,h1,h2⟩:=wopD_local hdet h
  refine⟨_,δ,_,.inl rfl,⟨h1.wrs rfl rfl,h1.mem,h1.shp,h1.obj,h1.gsh,fun σ2 ha=> ?_⟩,Eqv.refl _,h2⟩
  unfold StepD;rw[hg]
  exact wopD_mono hdet (h1.go σ2 (ha.sub fun t ht=>l1 t ht)) (fun τ e=>by rw[e];exact Eqv.refl _)
 |some q=>
  obtain⟨t,want⟩:=q
  have hgo:∀(d:D),σ.ev t=some d→(∀f h σ2,guardO t want (some d) f h σ2=f (σ2.put t.ad d))→∃(F:Foot) (δ:Dl) (τ:St),(F=foot σ i.op∨F=noF)∧LocI E C i F σ δ∧Eqv (δ.app σ) τ∧K F τ:=by
   intro d hd hf
   unfold StepD at h;rw[hg]at h;simp only[hd]at h
   rw[hf]at h
   have hq:=eqv_again hd
   obtain⟨δ,h1,h2⟩:=wopD_local hdet h
   have hF:foot (σ.put t.ad d) i.op=foot σ i.op:=foot_eqv hq i.op
   refine⟨_,δ,_,.inl rfl,⟨h1.wrs rfl rfl,?_,?_,?_,?_,fun σ2 ha=> ?_⟩,hq.app δ,h2⟩
   ·rw[←hF];exact h1.mem
   ·rw[←hF];intro k b r e1 e2 e3;exact h1.shp k b r e1 e2 (by rw[hq.L];exact e3)
   ·rw[←hF];exact h1.obj
   ·intro id x hx
    obtain⟨r,e1,e2⟩:=h1.gsh id x hx
    exact⟨r,by rw[←hq.G];exact e1,e2⟩
   ·have he:σ2.ev t=σ.ev t:=ha.ev (fun s hs=>by unfold PI.rd;rw[hg];exact l2 s hs)
    have hd2:σ2.ev t=some d:=he.trans hd
    unfold StepD;rw[hg];simp only[hd2];rw[hf]
    exact wopD_mono hdet (h1.go (σ2.put t.ad d) (by rw[hF];exact Eqv.agreeG hd hd2 (ha.sub fun t ht=>l1 t ht))) (fun τ e=>by rw[e];exact (eqv_again hd2).app δ)
  have hskip:∀(d:D),σ.ev t=some d→(∀f h σ2,guardO t want (some d) f h σ2=h σ2∨guardO t want (some d) f h σ2=h (σ2.put t.ad d))→∃(F:Foot) (δ:Dl) (τ:St),(F=foot σ i.op∨F=noF)∧LocI E C i F σ δ∧Eqv (δ.app σ) τ∧K F τ:=by
   intro d hd hs
   unfold StepD at h;rw[hg]at h;simp only[hd]at h
   rcases hs (WopD E C i.dst i.op (K (foot σ i.op))) (skipK i.dst (K noF)) σ with e|e
   ·rw[e]at h
    exact⟨_,_,_,.inr rfl,skip_loc hg hd hs,Eqv.refl _,h⟩
   ·rw[e]at h
    exact⟨_,_,_,.inr rfl,skip_loc hg hd hs,(eqv_again hd).put i.dst .un,h⟩
  cases hd:σ.ev t with
  |none=>unfold StepD at h;rw[hg]at h;simp only[hd]at h;exact False.elim h
  |some d=>
   by_cases h1:d= .v (.bool true)
   ·subst h1
    cases want with
    |true=>exact hgo _ hd fun _ _ _=>rfl
    |false=>exact hskip _ hd fun _ _ _=> .inr rfl
   ·by_cases h2:d= .v (.bool false)
    ·subst h2
     cases want with
     |true=>exact hskip _ hd fun _ _ _=> .inr rfl
     |false=>exact hgo _ hd fun _ _ _=>rfl
    ·by_cases h3:d= .un
     ·subst h3;exact hskip _ hd fun _ _ _=> .inl rfl
     ·unfold StepD at h;rw[hg]at h;simp only[hd]at h
      unfold guardO at h
      split at h
      ·rename_i e;cases e;exact absurd rfl h1
      ·rename_i e;cases e;exact absurd rfl h2
      ·rename_i e;cases e;exact absurd rfl h3
      ·exact False.elim h
end Go.Abs
namespace Go.Abs
open Go Go.RowKit
set_option linter.unusedVariables false
set_option linter.unusedSimpArgs false
variable {E:Env} {C:Spec}
structure It where
 n:Nat
 i:PI
 F:Foot
 δ:Dl
def Chain (E:Env) (C:Spec):List It→St→St→Prop
 |[],σ,fin=>Eqv σ fin
 |r::l,σ,fin=>LocI E C r.i r.F σ r.δ∧Chain E C l (r.δ.app σ) fin
theorem Chain.eqv:∀{l:List It} {σ σ2 fin:St},Chain E C l σ fin→Eqv σ σ2→Chain E C l σ2 fin
 |[],σ,σ2,fin,h,e=>e.symm.trans h
 |r::l,σ,σ2,fin,h,e=>⟨h.1.agree (e.agree _ _),Chain.eqv h.2 (e.app r.δ)⟩
def Apart (a b:It):Prop:=apartI a.i b.i=true∧apartF a.F b.F=true
theorem disj_spec {a b:List Nat} (h:disj a b=true):∀s∈a,s∉b:=by
 intro s hs hb
 simp only[disj,List.all_eq_true,Bool.not_eq_true']at h
 have:=h s hs
 simp[hb]at this
theorem neO_spec {a b:Option Nat} (h:neO a b=true) {k:Nat} (ha:a=some k):b≠some k:=by
 subst ha;intro hb;subst hb;simp[neO]at h
theorem apart_leaves {a b:It} (h:Apart a b) {σ:St} (ha:LocI E C a.i a.F σ a.δ) (hb:LocI E C b.i b.F σ b.δ):Meet a.δ b.δ:=by
 obtain⟨h1,h2⟩:=h
 simp only[apartI,Bool.and_eq_true]at h1
 simp only[apartF,Bool.and_eq_true,Bool.not_eq_true']at h2
 obtain⟨⟨⟨⟨⟨⟨⟨⟨⟨⟨⟨n1,n2⟩,n3⟩,n4⟩,n5⟩,n6⟩,n7⟩,n8⟩,n9⟩,n10⟩,n11⟩,n12⟩:=h2
 refine⟨fun s hs hs2=>disj_spec h1.1 s (ha.wr s hs) (l2 s (hb.wr s hs2)),fun k x l y e1 e2 e=> ?_,?_⟩
 ·subst e
  rcases ha.mem k x e1 with m1|m1<;>rcases hb.mem k y e2 with m2|m2
  ·exact neO_spec n8 m1 m2
  ·exact neO_spec n6 m2 m1
  ·exact neO_spec n3 m1 m2
  ·exact neO_spec n1 m1 m2
 ·cases e1:a.δ.G with
  |none=>exact .inl rfl
  |some q=>
   cases e2:b.δ.G with
   |none=>exact .inr rfl
   |some q2=>
    have g1:=ha.obj (by rw[e1];rfl)
    have g2:=hb.obj (by rw[e2];rfl)
    simp[g1,g2]at n11
theorem apart_a {a b:It} (h:Apart a b) {σ:St} (ha:LocI E C a.i a.F σ a.δ):Leaves b.i.rd b.F σ a.δ:=by
 obtain⟨h1,h2⟩:=h
 simp only[apartI,Bool.and_eq_true]at h1
 simp only[apartF,Bool.and_eq_true,Bool.not_eq_true']at h2
 obtain⟨⟨⟨⟨⟨⟨⟨⟨⟨⟨⟨n1,n2⟩,n3⟩,n4⟩,n5⟩,n6⟩,n7⟩,n8⟩,n9⟩,n10⟩,n11⟩,n12⟩:=h2
 refine⟨fun s hs hs2=>disj_spec h1.1 s (ha.wr s hs) (l1 s hs2),fun k x e1=> ?_,fun hg=> ?_,ha.gsh⟩
 ·rcases ha.mem k x e1 with m1|m1
  ·exact⟨neO_spec n9 m1,neO_spec n8 m1,fun e=>neO_spec n6 e m1,fun hs r hr=>ha.shp k x r e1 (fun e=>neO_spec n4 e hs) hr⟩
  ·exact⟨neO_spec n2 m1,neO_spec n3 m1,neO_spec n1 m1,fun e=>absurd e (neO_spec n4 m1)⟩
 ·have g1:=ha.obj hg
  cases e1:b.F.gr<;>cases e2:b.F.gw<;>simp[g1,e1,e2]at n11⊢
theorem apart_b {a b:It} (h:Apart a b) {σ:St} (hb:LocI E C b.i b.F σ b.δ):Leaves a.i.rd a.F σ b.δ:=by
 obtain⟨h1,h2⟩:=h
 simp only[apartI,Bool.and_eq_true]at h1
 simp only[apartF,Bool.and_eq_true,Bool.not_eq_true']at h2
 obtain⟨⟨⟨⟨⟨⟨⟨⟨⟨⟨⟨n1,n2⟩,n3⟩,n4⟩,n5⟩,n6⟩,n7⟩,n8⟩,n9⟩,n10⟩,n11⟩,n12⟩:=h2
 refine⟨fun s hs hs2=>disj_spec h1.2 s (hb.wr s hs) hs2,fun k x e1=> ?_,fun hg=> ?_,hb.gsh⟩
 ·rcases hb.mem k x e1 with m1|m1
  ·exact⟨neO_spec n10 m1,fun e=>neO_spec n8 e m1,fun e=>neO_spec n3 e m1,fun hs r hr=>hb.shp k x r e1 (fun e=>neO_spec n7 e hs) hr⟩
  ·exact⟨neO_spec n5 m1,neO_spec n6 m1,fun e=>neO_spec n1 e m1,fun e=>absurd e (neO_spec n7 m1)⟩
 ·have g1:=hb.obj hg
  cases e1:a.F.gr<;>cases e2:a.F.gw<;>simp[g1,e1,e2]at n11 n12⊢
theorem Chain.swap {a b:It} {l:List It} {σ fin:St} (h:Apart a b) (hc:Chain E C (a::b::l) σ fin):Chain E C (b::a::l) σ fin:=by
 obtain⟨ha,hb,hl⟩:=hc
 have hb0:LocI E C b.i b.F σ b.δ:=hb.agree (apart_a h ha).agree.2
 exact⟨hb0,ha.agree (apart_b h hb0).agree.1,hl.eqv (app_comm (apart_leaves h ha hb0) σ).symm⟩
theorem Chain.front {r:It} {B:List It}:∀{A:List It} {σ fin:St},(∀a∈A,Apart a r)→Chain E C (A++r::B) σ fin→Chain E C (r::(A++B)) σ fin
 |[],_,_,_,h=>h
 |a::A,σ,fin,hA,h=>by
  have h2:Chain E C (r::(A++B)) (a.δ.app σ) fin:=Chain.front (fun x hx=>hA x (List.mem_cons_of_mem _ hx)) h.2
  exact Chain.swap (hA a (List.mem_cons_self ..)) ⟨h.1,h2⟩
theorem chain_of (hdet:C.Det):∀(is:List PI) (k:Nat) (fs:List Foot) (K:List Foot→St→Prop) (σ:St),WopsD E C is fs K σ→
  ∃(R:List It) (fin:St),Chain E C R σ fin∧R.map (·.i)=is∧R.map (·.n)=List.range' k is.length∧(∀r∈R,∃τ,r.F=foot τ r.i.op∨r.F=noF)∧K (fs++R.map (·.F)) fin
 |[],k,fs,K,σ,h=>⟨[],σ,Eqv.refl _,rfl,rfl,fun r hr=>by simp at hr,by simpa [WopsD]using h⟩
 |i::is,k,fs,K,σ,h=>by
  rw[WopsD_step]at h
  obtain⟨F,δ,τ,h1,h2,h3,h4⟩:=stepD_local hdet h
  obtain⟨R,fin,h5,h6,h7,h8,h9⟩:=chain_of hdet is (k+1) _ K τ h4
  refine⟨⟨k,i,F,δ⟩::R,fin,⟨h2,h5.eqv h3.symm⟩,by simp[h6],by simp[h7,List.range'_succ],fun r hr=> ?_,by simpa using h9⟩
  rcases List.mem_cons.1 hr with rfl|hr
  ·exact⟨σ,h1⟩
  ·exact h8 r hr
end Go.Abs
namespace Go.Abs
open Go Go.RowKit
set_option linter.unusedVariables false
set_option linter.unusedSimpArgs false
structure Cov (q:Bool×Bool×Bool×Bool×Bool) (F:Foot):Prop where
 r:F.r.isSome=true→q.1=true
 w:F.w.isSome=true→q.2.1=true
 s:F.s.isSome=true→q.2.2.1=true
 n:F.n.isSome=true→q.2.2.2.1=true
 gr:F.gr=true→q.1=true∨q.2.2.2.2=true
 gw:F.gw=true→q.2.1=true
theorem cov_no (q):Cov q noF:=⟨(by intro h;cases h),(by intro h;cases h),(by intro h;cases h),(by intro h;cases h),(by intro h;cases h),(by intro h;cases h)⟩
theorem cov_R {a b c d:Bool} (o:Option D):Cov (true,a,b,c,d) (footR o):=by
 unfold footR
 split
 ·exact⟨fun _=>rfl,(by intro h;cases h),(by intro h;cases h),(by intro h;cases h),fun _=> .inl rfl,(by intro h;cases h)⟩
 ·exact⟨fun _=>rfl,(by intro h;cases h),(by intro h;cases h),(by intro h;cases h),fun _=> .inl rfl,(by intro h;cases h)⟩
 ·exact⟨fun _=>rfl,(by intro h;cases h),(by intro h;cases h),(by intro h;cases h),fun _=> .inl rfl,(by intro h;cases h)⟩
 ·exact cov_no _
theorem cov_W {a b c d:Bool} (o:Option D):Cov (a,true,b,c,d) (footW o):=by
 unfold footW
 split
 ·exact⟨(by intro h;cases h),fun _=>rfl,(by intro h;cases h),(by intro h;cases h),(by intro h;cases h),fun _=>rfl⟩
 ·exact⟨(by intro h;cases h),fun _=>rfl,(by intro h;cases h),(by intro h;cases h),(by intro h;cases h),fun _=>rfl⟩
 ·exact⟨(by intro h;cases h),fun _=>rfl,(by intro h;cases h),(by intro h;cases h),(by intro h;cases h),fun _=>rfl⟩
 ·exact⟨(by intro h;cases h),fun _=>rfl,(by intro h;cases h),(by intro h;cases h),(by intro h;cases h),fun _=>rfl⟩
 ·exact cov_no _
theorem cov_S {a b c d:Bool} (o:Option D):Cov (a,b,true,c,d) (footS o):=by
 unfold footS
 split
 ·exact⟨(by intro h;cases h),(by intro h;cases h),fun _=>rfl,(by intro h;cases h),(by intro h;cases h),(by intro h;cases h)⟩
 ·exact cov_no _
theorem cov_N {a b c d:Bool} (k:Nat):Cov (a,b,c,true,d) ⟨none,none,none,some k,false,false⟩:=⟨(by intro h;cases h),(by intro h;cases h),(by intro h;cases h),fun _=>rfl,(by intro h;cases h),(by intro h;cases h)⟩
theorem foot_cov (τ:St) (o:PO):Cov (clsO o) (foot τ o):=by
 cases o with
 |load n ag x=>exact cov_R _
 |store n a x=>exact cov_W _
 |copy a x=>exact cov_W _
 |slcA n vw x lo hi mx=>
  simp only[foot,clsO]
  cases vw
  ·exact cov_W _
  ·exact cov_S _
 |fadr f off x=>exact cov_S _
 |iadrA n x i=>exact cov_S _
 |iadrG n sz x i=>exact cov_S _
 |allocAt r z=>exact cov_N _
 |boxAt r x=>exact cov_N _
 |callV x xs=>exact⟨(by intro h;cases h),(by intro h;cases h),(by intro h;cases h),(by intro h;cases h),fun _=> .inr rfl,(by intro h;cases h)⟩
 |appI sz x y=>exact⟨(by intro h;cases h),(by intro h;cases h),(by intro h;cases h),(by intro h;cases h),fun _=> .inr rfl,fun _=>rfl⟩
 |clr sz z x=>exact⟨(by intro h;cases h),(by intro h;cases h),(by intro h;cases h),(by intro h;cases h),fun _=> .inr rfl,fun _=>rfl⟩
 |atLd x=>exact cov_R _
 |callW g xs=>exact⟨(by intro h;cases h),(by intro h;cases h),(by intro h;cases h),(by intro h;cases h),fun _=> .inr rfl,fun _=>rfl⟩
 |appR sz bytes z x y=>exact⟨(by intro h;cases h),(by intro h;cases h),(by intro h;cases h),(by intro h;cases h),fun _=> .inr rfl,fun _=>rfl⟩
 |new z=>exact⟨(by intro h;cases h),(by intro h;cases h),(by intro h;cases h),(by intro h;cases h),fun _=> .inr rfl,fun _=>rfl⟩
 |newB x=>exact⟨(by intro h;cases h),(by intro h;cases h),(by intro h;cases h),(by intro h;cases h),fun _=> .inr rfl,fun _=>rfl⟩
 |call g xs=>exact⟨(by intro h;cases h),(by intro h;cases h),(by intro h;cases h),(by intro h;cases h),fun _=> .inr rfl,(by intro h;cases h)⟩
 |_=>exact cov_no _
theorem neO_of {a b:Option Nat} (h:a.isSome=false∨b.isSome=false):neO a b=true:=by
 cases a<;>cases b<;>simp_all [neO]
theorem gOf {a b c d:Bool} (g1:¬(a=true∧b=true)) (g2:¬(a=true∧c=true)) (g3:¬(c=true∧d=true)):(!(a&&(b ||c))&& !(c&&d))=true:=by
 revert g1 g2 g3;cases a<;>cases b<;>cases c<;>cases d<;>simp
theorem apartC_spec {x y:Bool×Bool×Bool×Bool×Bool} {F G:Foot} (hx:Cov x F) (hy:Cov y G) (h:apartC x y=true):apartF F G=true:=by
 obtain⟨r,w,s,n,g⟩:=x
 obtain⟨r',w',s',n',g'⟩:=y
 obtain⟨x1,x2,x3,x4,x5,x6⟩:=hx
 obtain⟨y1,y2,y3,y4,y5,y6⟩:=hy
 simp only at x1 x2 x3 x4 x5 x6 y1 y2 y3 y4 y5 y6
 have c:∀{p q:Bool},(p=true→q=true)→q=false→p=false:=fun {p q} h1 h2=>by cases p<;>simp_all
 have pick:∀{p q:Bool} {a b:Option Nat},(a.isSome=true→p=true)→(b.isSome=true→q=true)→(p=true→q=true→False)→neO a b=true:=by
  intro p q a b h1 h2 h3
  apply neO_of
  cases ha:a.isSome with
  |false=>exact .inl rfl
  |true=>
   cases hb:b.isSome with
   |false=>exact .inr rfl
   |true=>exact (h3 (h1 ha) (h2 hb)).elim
 simp only[apartC,Bool.and_eq_true,Bool.not_eq_true',Bool.and_eq_false_iff,Bool.or_eq_false_iff]at h
 obtain⟨⟨⟨h1,h2⟩,h3⟩,h4⟩:=h
 have g1:¬(F.gw=true∧G.gr=true):=by
  rintro⟨e1,e2⟩
  have:=x6 e1;subst this
  rcases y5 e2 with e3|e3<;>subst e3<;>simp at h3
 have g2:¬(F.gw=true∧G.gw=true):=by
  rintro⟨e1,e2⟩
  have:=x6 e1;subst this
  have:=y6 e2;subst this
  simp at h3
 have g3:¬(G.gw=true∧F.gr=true):=by
  rintro⟨e1,e2⟩
  have:=y6 e1;subst this
  rcases x5 e2 with e3|e3<;>subst e3<;>simp at h4
 have g4:=gOf g1 g2 g3
 simp only[Bool.and_eq_true]at g4
 simp only[apartF,Bool.and_eq_true]
 refine⟨⟨⟨⟨⟨⟨⟨⟨⟨⟨⟨pick x4 y4 ?_,pick x4 y1 ?_⟩,pick x4 y2 ?_⟩,pick x4 y3 ?_⟩,pick y4 x1 ?_⟩,pick y4 x2 ?_⟩,pick y4 x3 ?_⟩,pick x2 y2 ?_⟩,pick x2 y1 ?_⟩,pick y2 x1 ?_⟩,g4.1⟩,g4.2⟩
 all_goals (intro e1 e2;subst e1;subst e2;first|(simp at h1;done)|(simp at h2;done)|(simp at h3;done)|(simp at h4;done))
/-! the pairs -/
theorem pairsOk_spec:∀{dep:List (Nat×Nat)} {fs:List Foot} {i j:Nat},pairsOk dep fs→(i,j)∈dep→apartF (getF fs i) (getF fs j)=true
 |[],_,_,_,_,h=>by simp at h
 |(a,b)::dep,fs,i,j,hp,h=>by
  rcases List.mem_cons.1 h with e|h
  ·cases e;exact hp.1
  ·exact pairsOk_spec hp.2 h
theorem getF_get:∀{fs:List Foot} {i:Nat} {F:Foot},fs[i]? =some F→getF fs i=F
 |[],_,_,h=>by simp at h
 |f::fs,0,F,h=>by simpa [getF]using h
 |f::fs,i+1,F,h=>by simp only[getF];exact getF_get (by simpa using h)
theorem depsJ_spec {x:PI} {i:Nat} {ws:List Nat}:∀{l:List PI} {j0:Nat} {r:List (Nat×Nat)},depsJ x i ws j0 l=some r→
  ∀k y,l[k]? =some y→j0+k < i→ws.contains (j0+k)=true∨(apartI y x=true∧(apartC (clsO y.op) (clsO x.op)=true∨(j0+k,i)∈r))
 |[],j0,r,h,k,y,hk,hlt=>by simp at hk
 |z::l,j0,r,h,k,y,hk,hlt=>by
  simp only[depsJ]at h
  rw[if_neg (by omega)]at h
  split at h
  ·cases h
  ·rename_i r0 h0
   have rest:∀k y,l[k]? =some y→j0+1+k < i→ws.contains (j0+1+k)=true∨(apartI y x=true∧(apartC (clsO y.op) (clsO x.op)=true∨(j0+1+k,i)∈r0)):=depsJ_spec h0
   have sub:∀q∈r0,q∈r:=by
    intro q hq
    split at h
    ·cases h;exact hq
    ·split at h
     ·cases h
     ·split at h
      ·cases h;exact hq
      ·cases h;exact List.mem_cons_of_mem _ hq
   cases k with
   |zero=>
    simp only[List.getElem?_cons_zero,Option.some.injEq]at hk;subst hk
    simp only[Nat.add_zero]
    split at h
    ·rename_i hc;exact .inl hc
    ·split at h
     ·cases h
     ·rename_i ha
      split at h
      ·rename_i hc;exact .inr ⟨by cases e:apartI z x<;>simp_all,.inl hc⟩
      ·cases h;exact .inr ⟨by cases e:apartI z x<;>simp_all,.inr (List.mem_cons_self ..)⟩
   |succ k=>
    have:=rest k y (by simpa using hk) (by omega)
    rw[show j0+1+k=j0+(k+1)by omega]at this
    rcases this with h1|⟨h1,h2|h2⟩
    ·exact .inl h1
    ·exact .inr ⟨h1,.inl h2⟩
    ·exact .inr ⟨h1,.inr (sub _ h2)⟩
theorem depsI_spec {tab:List (List Nat)} {all:List PI}:∀{ops:List Oper} {is:List PI} {i:Nat} {dep:List (Nat×Nat)},depsI tab all i ops is=some dep→
  ∀k o x,ops[k]? =some o→is[k]? =some x→(∀p∈predsOf o,p < i+k)∧
   ∀j y,all[j]? =some y→j < i+k→(getW tab (i+k)).contains j=true∨(apartI y x=true∧(apartC (clsO y.op) (clsO x.op)=true∨(j,i+k)∈dep))
 |[],is,i,dep,h,k,o,x,ho,hx=>by simp at ho
 |o'::ops,[],i,dep,h,k,o,x,ho,hx=>by simp at hx
 |o'::ops,x'::is,i,dep,h,k,o,x,ho,hx=>by
  simp only[depsI]at h
  split at h
  ·rename_i hp
   split at h
   ·rename_i a b h1 h2;cases h
    cases k with
    |zero=>
     simp only[List.getElem?_cons_zero,Option.some.injEq]at ho hx;subst ho;subst hx
     refine⟨fun p hpm=>by simpa using (List.all_eq_true.1 hp) p hpm,fun j y hy hlt=> ?_⟩
     have:=depsJ_spec h1 j y hy (by omega)
     simp only[Nat.zero_add]at this
     rcases this with h3|⟨h3,h4|h4⟩
     ·exact .inl h3
     ·exact .inr ⟨h3,.inl h4⟩
     ·exact .inr ⟨h3,.inr (List.mem_append_left _ h4)⟩
    |succ k=>
     obtain⟨h3,h4⟩:=depsI_spec h2 k o x (by simpa using ho) (by simpa using hx)
     rw[show i+1+k=i+(k+1)by omega]at h3 h4
     refine⟨h3,fun j y hy hlt=> ?_⟩
     rcases h4 j y hy hlt with h5|⟨h5,h6|h6⟩
     ·exact .inl h5
     ·exact .inr ⟨h5,.inl h6⟩
     ·exact .inr ⟨h5,.inr (List.mem_append_right _ h6)⟩
   ·cases h
  ·cases h
theorem insN_mem {l:List Nat} {x a:Nat} (h:a∈insN l x):a=x∨a∈l:=by
 unfold insN at h
 split at h
 ·exact .inr h
 ·exact List.mem_cons.1 h
theorem foldN_mem:∀{xs w:List Nat} {a:Nat},a∈xs.foldl insN w→a∈xs∨a∈w
 |[],w,a,h=> .inr h
 |x::xs,w,a,h=>by
  simp only[List.foldl_cons]at h
  rcases foldN_mem h with h1|h1
  ·exact .inl (List.mem_cons_of_mem _ h1)
  ·rcases insN_mem h1 with h2|h2
   ·exact .inl (by rw[h2];exact List.mem_cons_self ..)
   ·exact .inr h2
theorem row_mem {acc:List (List Nat)}:∀{ps w:List Nat} {a:Nat},a∈ps.foldl (fun w j=>(j::getW acc j).foldl insN w) w→(∃j∈ps,a=j∨a∈getW acc j)∨a∈w
 |[],w,a,h=> .inr h
 |p::ps,w,a,h=>by
  simp only[List.foldl_cons]at h
  rcases row_mem h with⟨j,h1,h2⟩|h1
  ·exact .inl ⟨j,List.mem_cons_of_mem _ h1,h2⟩
  ·have:a∈(p::getW acc p).foldl insN w:=h1
   rcases foldN_mem this with h2|h2
   ·exact .inl ⟨p,List.mem_cons_self ..,List.mem_cons.1 h2⟩
   ·exact .inr h2
theorem getW_app:∀{l m:List (List Nat)} {k:Nat},k < l.length→getW (l++m) k=getW l k
 |[],m,k,h=>by simp at h
 |x::l,m,0,h=>rfl
 |x::l,m,k+1,h=>by simp only[List.cons_append,getW];exact getW_app (by simpa using h)
theorem getW_end:∀{l:List (List Nat)} {x:List Nat},getW (l++[x]) l.length=x
 |[],x=>rfl
 |y::l,x=>by simp only[List.cons_append,List.length_cons,getW];exact getW_end
theorem waitTab_pre:∀{l:List Oper} {acc:List (List Nat)} {k:Nat},k < acc.length→getW (waitTab l acc) k=getW acc k
 |[],acc,k,h=>rfl
 |o::l,acc,k,h=>by
  simp only[waitTab]
  rw[waitTab_pre (by simp;omega),getW_app h]
theorem waitTab_mem:∀{l:List Oper} {acc:List (List Nat)} {i:Nat} {o:Oper},l[i]? =some o→(∀j∈predsOf o,j < acc.length+i)→∀a∈getW (waitTab l acc) (acc.length+i),∃j∈predsOf o,a=j∨a∈getW (waitTab l acc) j
 |[],acc,i,o,h,_,_,_=>by simp at h
 |o'::l,acc,0,o,h,hp,a,ha=>by
  simp only[List.getElem?_cons_zero,Option.some.injEq]at h;subst h
  simp only[waitTab,Nat.add_zero]at ha⊢
  rw[waitTab_pre (by simp),getW_end]at ha
  rcases row_mem ha with⟨j,h1,h2⟩|h1
  ·have hj:j < acc.length:=by have:=hp j h1;omega
   refine⟨j,h1,?_⟩
   rw[waitTab_pre (by simp;omega),getW_app hj];exact h2
  ·simp at h1
 |o'::l,acc,i+1,o,h,hp,a,ha=>by
  simp only[waitTab]at ha⊢
  refine waitTab_mem (acc:=acc++[_]) (i:=i) (by simpa using h) (fun j hj=> ?_) a ?_
  ·have:=hp j hj;simp;omega
  ·have e:(acc++[List.foldl (fun w j=>List.foldl insN w (j::getW acc j)) [] (predsOf o')]).length+i=acc.length+(i+1):=by simp;omega
   rw[e];exact ha
end Go.Abs
namespace Go.Abs
open Go Go.RowKit
set_option linter.unusedVariables false
set_option linter.unusedSimpArgs false
variable {E:Env} {C:Spec} {c:Ctx} {m:Mem} {σ:St} {a:Act} {w:World}
theorem InvW.eqv {σ2:St} (h:InvW c m σ a w) (e:Eqv σ σ2):InvW c m σ2 a w:=by
 obtain⟨vs,ts,L,G⟩:=σ
 obtain⟨vs2,ts2,L2,G2⟩:=σ2
 obtain⟨e1,e2,e3,e4⟩:=e
 simp only at e1 e2 e3 e4;subst e1;subst e3;subst e4
 exact { h with envT:=fun t d hd=>h.envT t d (by rw[←e2];exact hd) }
def retC (E:Env):Spec:=fun g vs G Q=>Ret E g vs G Q
theorem Ret.mono {g:Nat} {vs:List V} {G:List (Nat×V)} {Q Q':R→List (Nat×V)→Prop} (h:Ret E g vs G Q) (hq:∀r G',Q r G'→Q' r G'):Ret E g vs G Q':=by
 intro Mc B w args h1 h2 h3
 refine Calls.mono (h Mc B w args h1 h2 h3) ?_
 rintro e w' ⟨v,r,G',m',e1,e2,e3,e4⟩
 exact⟨v,r,G',m',e1,hq _ _ e2,e3,e4⟩
theorem wopD_wop (hC:C.Sound E) {t:AD} {po:PO} {K:St→Prop} (h:WopD E C t po K σ):Wop E (retC E) t po K σ:=by
 cases po with
 |call g xs=>
  have h:callDO C g (σ.evs xs) K σ t:=h
  show callO (retC E) g (σ.evs xs) K σ t
  unfold callDO at h
  unfold callO
  split at h
  ·rename_i vs hvs
   exact (hC _ _ _ _ h).mono fun r G' hq=>by obtain⟨rfl,hq⟩:=hq;exact hq
  ·exact h
 |callW g xs=>exact False.elim h
 |nileq neg x=>exact False.elim h
 |new z=>exact False.elim h
 |callV x xs=>
  have h:callVD C (calleeOk E.P) K σ t (asV (σ.ev x)) (σ.evs xs):=h
  show callVK (retC E) (calleeOk E.P) K σ t (asV (σ.ev x)) (σ.evs xs)
  unfold callVD at h
  unfold callVK
  split at h
  ·rename_i f caps vs hx hvs
   exact⟨h.1,(hC _ _ _ _ h.2).mono fun r G' hq=>by obtain⟨rfl,hq⟩:=hq;exact hq⟩
  ·exact h.elim
 |appR sz bytes z x y=>exact False.elim h
 |appI sz x y=>exact False.elim h
 |clr sz z x=>exact False.elim h
 |atLd x=>exact False.elim h
 |atSt a x=>exact False.elim h
 |atAdd a x=>exact False.elim h
 |newB x=>exact False.elim h
 |alloc z=>exact False.elim h
 |box x=>exact False.elim h
 |_=>exact h
theorem op_step (hC:C.Sound E) {ops:Array Oper} {i:Nat} {o:Oper} {rr:Option Nat} {pi:PI} {K:St→Prop} {next:Act→World→Prop} {QQ:Exit→Act→World→Prop} (h:InvW c m σ a w) (hP:c.P=E.P) (htab:c.tab=E.tab)
  (hoi:ops[i]? =some o) (h1:prepI c.P c.K c.N ops.toList rr o=some pi) (hW:StepD E C pi (fun _=>K) σ) (ih:∀σ' m' a' w',InvW c m' σ' a' w'→K σ'→next a' w'):wpOp c.P ops QQ i next a w:=by
 unfold prepI at h1
 split at h1
 ·rename_i t g hd hg
  cases h1
  simp only[wpOp,hoi]
  have go:∀σ,InvW c m σ a w→WopD E C t ((prepOp c.P c.K ops.toList rr o).getD .bad) K σ→o.wp c.P a w next QQ:=by
   intro σ h hW
   cases hpo:prepOp c.P c.K ops.toList rr o with
   |none=>rw[hpo]at hW;exact False.elim hW
   |some po=>
    rw[hpo]at hW
    exact Wop_sound (C:=retC E) (fun _ _ _ _ h=>h) h hP htab (by rw[h.vsK];exact hpo) (by rw[h.vsK];exact hd) (wopD_wop hC hW) ih
  have skip:∀σ,InvW c m σ a w→skipK t K σ→next (a.put o.dst undef) w:=by
   intro σ h hW
   exact ih _ m _ w (h.put (by rw[h.vsK];exact hd) (d:= .un) (v:=undef) rfl) hW
  cases hgd:o.guard with
  |none=>
   rw[hgd]at hg;simp only[prepG]at hg;cases hg
   have hwant:Region.wanted o (yielded ops a.tmps)=true:=by simp[Region.wanted,hgd]
   rw[if_pos hwant]
   exact .inl (go σ h hW)
  |some jw=>
   obtain⟨j,want⟩:=jw
   rw[hgd]at hg
   obtain⟨s,hs,rfl⟩:=prepG_spec hg
   replace hW:guardO (if s < c.K then .v s else .t s) want (σ.ev (if s < c.K then .v s else .t s)) (WopD E C t ((prepOp c.P c.K ops.toList rr o).getD .bad) K) (skipK t K) σ:=hW
   have hy:∀d,σ.ev (if s < c.K then .v s else .t s)=some d→(∀b,d= .v (.bool b)→yielded ops a.tmps j=some b)∧(d= .un→yielded ops a.tmps j=none):=by
    intro d hd
    obtain⟨e1,e2⟩:=ev_tmp h hd
    have e3:=tmps_get h.size e1
    refine⟨fun b hb=> ?_,fun hb=> ?_⟩
    ·subst hb
     have e2:RepW w _ (.bool b) _:=e2
     simp only[RepW,V.isAgg,Bool.false_eq_true,if_false,RepV,List.cons.injEq,and_true]at e2
     simp only[yielded,hs,Option.bind_some,e3,e2]
    ·subst hb
     have e2:_=undef:=e2
     simp only[yielded,hs,Option.bind_some,e3];rw[e2];rfl
   cases hev:σ.ev (if s < c.K then .v s else .t s)with
   |none=>rw[hev]at hW;exact hW.elim
   |some d=>
    obtain⟨y1,y2⟩:=hy d hev
    rw[hev]at hW
    simp only[guardO]at hW
    split at hW
    ·rename_i e;cases e
     have y:=y1 true rfl
     have h':=h.again hev
     split at hW
     ·rename_i hw;subst hw
      have hwant:Region.wanted o (yielded ops a.tmps)=true:=by simp[Region.wanted,hgd,y]
      rw[if_pos hwant];exact .inl (go _ h' hW)
     ·rename_i hw
      have hwant:Region.wanted o (yielded ops a.tmps)=false:=by cases want<;>simp_all [Region.wanted]
      rw[if_neg (by rw[hwant];exact Bool.false_ne_true)];exact skip _ h' hW
    ·rename_i e;cases e
     have y:=y1 false rfl
     have h':=h.again hev
     split at hW
     ·rename_i hw;subst hw
      have hwant:Region.wanted o (yielded ops a.tmps)=false:=by simp[Region.wanted,hgd,y]
      rw[if_neg (by rw[hwant];exact Bool.false_ne_true)];exact skip _ h' hW
     ·rename_i hw
      have hwant:Region.wanted o (yielded ops a.tmps)=true:=by cases want<;>simp_all [Region.wanted]
      rw[if_pos hwant];exact .inl (go _ h' hW)
    ·rename_i e;cases e
     have y:=y2 rfl
     have hwant:Region.wanted o (yielded ops a.tmps)=false:=by simp[Region.wanted,hgd,y]
     rw[if_neg (by rw[hwant];exact Bool.false_ne_true)];exact skip _ h hW
    ·exact hW.elim
 ·cases h1
theorem predsOf_mem {o:Oper} {p:Nat}:p∈predsOf o↔∃e∈o.after,Region.binds .any e=true∧e.on=p:=by
 simp only[predsOf,List.mem_filterMap,Array.mem_toList_iff]
 constructor
 ·rintro⟨e,h1,h2⟩
  split at h2
  ·rename_i h3;cases h2;exact⟨e,h1,h3,rfl⟩
  ·cases h2
 ·rintro⟨e,h1,h2,rfl⟩
  exact⟨e,h1,by rw[if_pos h2]⟩
theorem getD_tf {l:Array Bool} {j:Nat} (h:j < l.size):l.getD j true=l.getD j false:=by
 simp[Array.getD,h]
theorem any_sound (hC:C.Sound E) (hP:c.P=E.P) (htab:c.tab=E.tab) {ops:Array Oper} {T:List (List Nat)} {fin:St} {QQ:Exit→Act→World→Prop}
  (hT:∀i o,ops[i]? =some o→∀x∈getW T i,∃j∈predsOf o,x=j∨x∈getW T j) (hpre:∀i o,ops[i]? =some o→∀p∈predsOf o,p < i)
  (hQ:∀m a w,InvW c m fin a w→QQ .normal a w):∀(n:Nat) (R:List It) (listed:Array Bool) (σ:St) (m:Mem) (a:Act) (w:World),R.length=n→InvW c m σ a w→Chain E C R σ fin→listed.size=ops.size→
   (∀j,j < ops.size→(listed.getD j true=false↔∃r∈R,r.n=j))→(∀r∈R,∃o rr,ops[r.n]? =some o∧prepI c.P c.K c.N ops.toList rr o=some r.i)→
   R.Pairwise (fun x y=>x.n < y.n∧(x.n∈getW T y.n∨Apart x y))→(∀j,listed.getD j false=true→∀x∈getW T j,listed.getD x false=true)→wpAny c.P .any ops QQ n listed a w
 |0,R,listed,σ,m,a,w,hn,h,hc,hsz,hl,hops,hpw,hcl=>by
  have hR:R=[]:=List.length_eq_zero_iff.1 hn
  subst hR
  refine⟨?_,hQ m a w (h.eqv hc)⟩
  apply List.eq_nil_iff_forall_not_mem.2
  intro j hj
  obtain⟨h1,o,h2,_⟩:=mem_ready.1 hj
  have hlt:=(Array.getElem?_eq_some_iff.1 h2).1
  obtain⟨r,hr,_⟩:=(hl j hlt).1 h1
  simp at hr
 |n+1,R,listed,σ,m,a,w,hn,h,hc,hsz,hl,hops,hpw,hcl=>by
  refine⟨fun hr0=> ?_,fun j hj=> ?_⟩
  ·exfalso
   cases R with
   |nil=>simp at hn
   |cons r R=>
    obtain⟨o,rr,ho,hpi⟩:=hops r (List.mem_cons_self ..)
    have hlt:=(Array.getElem?_eq_some_iff.1 ho).1
    have:r.n∈Region.ready .any ops listed:=by
     rw[mem_ready]
     refine⟨(hl _ hlt).2 ⟨r,List.mem_cons_self ..,rfl⟩,o,ho,fun e he hb=> ?_⟩
     have hp:e.on < r.n:=hpre _ o ho _ (predsOf_mem.2 ⟨e,he,hb,rfl⟩)
     have hlt2:e.on < ops.size:=by omega
     rw[←getD_tf (by omega)]
     cases hx:listed.getD e.on true with
     |true=>rfl
     |false=>
      obtain⟨r',hr',e'⟩:=(hl _ hlt2).1 hx
      rcases List.mem_cons.1 hr' with rfl|hr'
      ·omega
      ·have:=(List.pairwise_cons.1 hpw).1 r' hr'
       omega
    rw[hr0]at this;cases this
  ·obtain⟨h1,o,ho,hall⟩:=mem_ready.1 hj
   have hlt:=(Array.getElem?_eq_some_iff.1 ho).1
   obtain⟨r,hr,rfl⟩:=(hl j hlt).1 h1
   obtain⟨A,B,rfl⟩:=List.append_of_mem hr
   obtain⟨o',rr,ho',hpi⟩:=hops r hr
   rw[ho]at ho';cases ho'
   have hpreds:∀p∈predsOf o,listed.getD p false=true:=fun p hp=>by
    obtain⟨e,h3,h4,rfl⟩:=predsOf_mem.1 hp
    exact hall e h3 h4
   have hwt:∀x∈getW T r.n,listed.getD x false=true:=fun x hx=>by
    obtain⟨p,hp,h3⟩:=hT _ o ho x hx
    rcases h3 with rfl|h3
    ·exact hpreds _ hp
    ·exact hcl p (hpreds p hp) x h3
   have hA:∀x∈A,Apart x r:=fun x hx=>by
    obtain⟨h3,h4⟩:=(List.pairwise_append.1 hpw).2.2 x hx r (List.mem_cons_self ..)
    rcases h4 with h4|h4
    ·exfalso
     have h5:=hwt _ h4
     obtain⟨ox,_,hox,_⟩:=hops x (List.mem_append_left _ hx)
     have hxlt:=(Array.getElem?_eq_some_iff.1 hox).1
     have h6:=(hl x.n hxlt).2 ⟨x,List.mem_append_left _ hx,rfl⟩
     rw[getD_tf (by omega),h5]at h6;cases h6
    ·exact h4
   obtain⟨hloc,hrest⟩:=Chain.front hA hc
   have hne:∀x∈A++B,x.n≠r.n:=fun x hx=>by
    rcases List.mem_append.1 hx with hx|hx
    ·have:=((List.pairwise_append.1 hpw).2.2 x hx r (List.mem_cons_self ..)).1;omega
    ·have:=((List.pairwise_cons.1 (List.pairwise_append.1 hpw).2.1).1 x hx).1;omega
   have hsub:(A++B).Sublist (A++r::B):=List.Sublist.append_left (List.sublist_cons_self r B) A
   refine op_step hC h hP htab ho hpi (hloc.go σ (Agree.refl _ _ _)) ?_
   intro σ' m' a' w' h' he
   refine any_sound hC hP htab hT hpre hQ n (A++B) _ (r.δ.app σ) m' a' w' (by simp at hn⊢;omega) (h'.eqv he.symm) hrest (by simpa using hsz) ?_ (fun x hx=>hops x (hsub.subset hx)) (hpw.sublist hsub) ?_
   ·intro j hjlt
    by_cases e:j=r.n
    ·subst e
     have:(listed.setIfInBounds r.n true).getD r.n true=true:=by simp[Array.getD]
     rw[this]
     constructor
     ·intro h;cases h
     ·rintro⟨x,hx,e⟩;exact absurd e (hne x hx)
    ·rw[getD_set_ne true (fun e'=>e e'.symm),hl j hjlt]
     constructor
     ·rintro⟨x,hx,rfl⟩
      refine⟨x,?_,rfl⟩
      rcases List.mem_append.1 hx with hx|hx
      ·exact List.mem_append_left _ hx
      ·rcases List.mem_cons.1 hx with rfl|hx
       ·exact absurd rfl e
       ·exact List.mem_append_right _ hx
     ·rintro⟨x,hx,rfl⟩;exact⟨x,hsub.subset hx,rfl⟩
   ·intro j hj2 x hx
    by_cases e:j=r.n
    ·subst e;exact getD_set_true (hwt x hx)
    ·rw[getD_set_ne false (fun e'=>e e'.symm)]at hj2
     exact getD_set_true (hcl j hj2 x hx)
end Go.Abs
namespace Go.Abs
open Go Go.RowKit
set_option linter.unusedVariables false
set_option linter.unusedSimpArgs false
variable {E:Env} {C:Spec} {c:Ctx} {m:Mem} {σ:St} {a:Act} {w:World}
theorem prepIs_get {P:Program} {K N:Nat} {es:List Nat} {d:Bool} {all:List Oper}:∀{l:List Oper} {is:List PI},prepIs P K N es d all l=some is→is.length=l.length∧
  ∀(k:Nat) o x,l[k]? =some o→is[k]? =some x→∃rr,prepI P K N all rr o=some x
 |[],is,h=>by simp only[prepIs]at h;cases h;exact⟨rfl,fun k o x h=>by simp at h⟩
 |o::l,is,h=>by
  simp only[prepIs]at h
  cases h1:prepI P K N all (rOf es d (cntA (o::l)) o.dst) o with
  |none=>simp[h1,consO]at h
  |some x=>
   cases h2:prepIs P K N es d all l with
   |none=>simp[h1,h2,consO]at h
   |some is'=>
    simp only[h1,h2,consO]at h;cases h
    obtain⟨h3,h4⟩:=prepIs_get h2
    refine⟨by simp[h3],fun k o' x' ho hx=> ?_⟩
    cases k with
    |zero=>simp at ho hx;subst ho;subst hx;exact⟨_,h1⟩
    |succ k=>exact h4 k o' x' (by simpa using ho) (by simpa using hx)
theorem regD_sound {es:List Nat} (hC:C.Sound E) (hdet:C.Det) (hP:c.P=E.P) (htab:c.tab=E.tab) {id:Nat} {ops:Array Oper} {is:List PI} {dep:List (Nat×Nat)} {K:St→Prop} {QQ:Exit→Act→World→Prop}
  (hm:c.P.follows .mixedOrders=true) (hp:prepIs c.P c.K c.N es true ops.toList ops.toList=some is) (hd:depsOf ops.toList is=some dep) (h:InvW c m σ a w)
  (hW:startD (cntA ops.toList) (WopsD E C is [] (endD dep K)) σ) (hQ:∀σ' m' a' w',InvW c m' σ' a' w'→K σ'→QQ .normal a' w'):(Code.region id ops true).wp c.P QQ a w:=by
 obtain⟨R,fin,h1,h2,h3,h4,h5,h6⟩:=chain_of hdet is 0 [] _ _ hW
 obtain⟨hlen,hget⟩:=prepIs_get hp
 have hRlen:R.length=is.length:=by rw[←h2];simp
 have hn:∀(k:Nat) r,R[k]? =some r→r.n=k:=by
  intro k r hr
  have:(R.map (·.n))[k]? =some r.n:=by simp[hr]
  rw[h3]at this
  obtain⟨h7,h8⟩:=List.getElem?_eq_some_iff.1 this
  simp at h8;omega
 have hi:∀(k:Nat) r,R[k]? =some r→is[k]? =some r.i:=by
  intro k r hr;rw[←h2];simp[hr]
 have hop:∀(k:Nat) r,R[k]? =some r→∃o,ops[k]? =some o∧ops.toList[k]? =some o:=by
  intro k r hr
  have hlt:=(List.getElem?_eq_some_iff.1 hr).1
  have:k < ops.toList.length:=by omega
  exact⟨ops.toList[k],by rw[←Array.getElem?_toList];exact List.getElem?_eq_getElem this,List.getElem?_eq_getElem this⟩
 have hspec:=fun k o x h1 h2=>depsI_spec hd k o x h1 h2
 simp only[Nat.zero_add]at hspec
 have hpre:∀i o,ops[i]? =some o→∀p∈predsOf o,p < i:=by
  intro i o ho
  rw[←Array.getElem?_toList]at ho
  have hlt:=(List.getElem?_eq_some_iff.1 ho).1
  exact (hspec i o _ ho (List.getElem?_eq_getElem (by omega))).1
 refine wp_region_any hm ?_
 refine any_sound (T:=waitTab ops.toList []) hC hP htab ?_ hpre (fun m' a' w' h'=>hQ fin m' a' w' h' h6) ops.size R _ _ _ a _ (by simp[hRlen,hlen]) ((h.clear.more (cntA ops.toList)).drew 1) h1 (by simp) ?_ ?_ ?_ ?_
 ·intro i o ho x hx
  have:=waitTab_mem (acc:=[]) (i:=i) (o:=o) (l:=ops.toList) (by rw[Array.getElem?_toList];exact ho) (by simpa using hpre i o ho) x (by simpa using hx)
  exact this
 ·intro j hj
  constructor
  ·intro _
   have:j < R.length:=by simp[hRlen,hlen];omega
   exact⟨R[j],List.getElem_mem this,hn j _ (List.getElem?_eq_getElem this)⟩
  ·intro _;simp[Array.getD,hj]
 ·intro r hr
  obtain⟨k,hk⟩:=List.mem_iff_getElem?.1 hr
  obtain⟨o,ho,ho2⟩:=hop k r hk
  obtain⟨rr,hrr⟩:=hget k o r.i ho2 (hi k r hk)
  exact⟨o,rr,by rw[hn k r hk];exact ho,hrr⟩
 ·rw[List.pairwise_iff_getElem]
  intro j k hj hk hjk
  have ej:=List.getElem?_eq_getElem hj
  have ek:=List.getElem?_eq_getElem hk
  rw[hn j _ ej,hn k _ ek]
  refine⟨hjk,?_⟩
  obtain⟨o,_,ho⟩:=hop k _ ek
  rcases (hspec k o _ ho (hi k _ ek)).2 j _ (hi j _ ej) hjk with h7|⟨h7,h8⟩
  ·left;simpa using h7
  ·right
   refine⟨h7,?_⟩
   rcases h8 with h8|h8
   ·refine apartC_spec ?_ ?_ h8
    ·obtain⟨τ,h9|h9⟩:=h4 _ (List.getElem_mem hj)
     ·rw[h9];exact foot_cov _ _
     ·rw[h9];exact cov_no _
    ·obtain⟨τ,h9|h9⟩:=h4 _ (List.getElem_mem hk)
     ·rw[h9];exact foot_cov _ _
     ·rw[h9];exact cov_no _
   ·have:=pairsOk_spec h5 h8
    rw[getF_get (F:=R[j].F) (by simp[ej]),getF_get (F:=R[k].F) (by simp[ek])]at this
    exact this
 ·intro j hj
  exfalso
  by_cases h:j < ops.size<;>simp[Array.getD,h]at hj
end Go.Abs
namespace Go.Abs
open Go Go.RowKit
set_option linter.unusedVariables false
set_option linter.unusedSimpArgs false
variable {E:Env} {C:Spec} {c:Ctx} {m:Mem} {σ:St} {a:Act} {w:World}
def Stays (G G':List (Nat×V)):Prop:=∀id r,look G id=some r→∃r',look G' id=some r'∧r.same r'=true
theorem Stays.refl (G:List (Nat×V)):Stays G G:=fun _ r h=>⟨r,h,V.same_refl _⟩
theorem Ret.keeps {g:Nat} {vs:List V} {G:List (Nat×V)} {Q:R→List (Nat×V)→Prop} (h:Ret E g vs G Q):Ret E g vs G (fun r G'=>Stays G G'∧Q r G'):=by
 intro Mc B w args h1 h2 h3
 refine Calls.mono (h Mc B w args h1 h2 h3) ?_
 rintro e w' ⟨v,r,G',m',e1,e2,e3,e4⟩
 exact⟨v,r,G',m',e1,⟨e3.objs0,e2⟩,e3,e4⟩
theorem ev_slots {σ τ:St} {x:AO} (h:∀s∈aoN x,getv σ.vs s=getv τ.vs s∧look σ.ts s=look τ.ts s):σ.ev x=τ.ev x:=by
 cases x with
 |v t=>exact (h t (by simp[aoN])).1
 |t t=>exact (h t (by simp[aoN])).2
 |c d=>rfl
theorem evs_slots {σ τ:St}:∀{xs:List AO},(∀s∈xs.flatMap aoN,getv σ.vs s=getv τ.vs s∧look σ.ts s=look τ.ts s)→σ.evs xs=τ.evs xs
 |[],_=>rfl
 |x::xs,h=>by
  simp only[St.evs]
  rw[ev_slots (fun s hs=>h s (by simp only[List.flatMap_cons,List.mem_append];exact .inl hs)),evs_slots (fun s hs=>h s (by simp only[List.flatMap_cons,List.mem_append];exact .inr hs))]
theorem stays_cons {G:List (Nat×V)} {id:Nat} {x:V} (h:look G id=none):Stays G ((id,x)::G):=by
 intro j r hj
 have hne:j≠id:=by rintro rfl;rw[h]at hj;cases hj
 exact⟨r,by rw[look_cons,if_neg hne];exact hj,V.same_refl _⟩
theorem stays_upd {G:List (Nat×V)} {id:Nat} {x y:V} (h:look G id=some x) (hs:x.same y=true):Stays G (upd G id y):=by
 intro j r hj
 by_cases e:j=id
 ·subst e;rw[h]at hj;cases hj
  exact⟨y,by rw[look_upd,if_pos rfl,h];rfl,hs⟩
 ·exact⟨r,by rw[look_upd,if_neg e];exact hj,V.same_refl _⟩
theorem appNew_map {sz:Nat} {z:V} {els:List V} {K K2:St→Prop} {fin σ:St} {t:AD} (hG:σ.G=fin.G)
  (hK:∀G' d,Stays fin.G G'→K (({ fin with G:=G' }:St).put t d)→K2 (({ σ with G:=G' }:St).put t d)) (h:appNew sz z els K fin t):appNew sz z els K2 σ t:=by
 intro id c h1 h2
 rw[hG]at h1⊢
 exact hK _ _ (stays_cons h1) (h id c h1 h2)
theorem wild_map (hC:C.Sound E) {o:PO} (hw:wild o=true) {t:AD} {K K2:St→Prop} {fin σ:St} (h:WopW E C t o K fin)
  (hv:∀s∈rdO o,getv σ.vs s=getv fin.vs s∧look σ.ts s=look fin.ts s) (hG:σ.G=fin.G)
  (hK:∀G' d,Stays fin.G G'→K (({ fin with G:=G' }:St).put t d)→K2 (({ σ with G:=G' }:St).put t d)):Wop E (retC E) t o K2 σ:=by
 have here:∀d,K (fin.put t d)→K2 (σ.put t d):=fun d h=>by
  have:=hK fin.G d (Stays.refl _) h
  rw[←hG]at this;exact this
 cases o<;>simp only[wild]at hw<;>try (cases hw;done)
 case callW g xs=>
  have h:callO C g (fin.evs xs) K fin t:=h
  show callO (retC E) g (σ.evs xs) K2 σ t
  rw[evs_slots hv]
  unfold callO at h⊢
  split at h
  ·rename_i vs e
   have h1:Ret E g vs fin.G _:=(hC _ _ _ _ h).keeps
   show Ret E g vs σ.G _
   rw[hG]
   exact h1.mono fun r G' hq=>hK G' r.D hq.1 hq.2
  ·exact h.elim
 case new z=>
  have h:newK (some z) t K fin:=h
  show newK (some z) t K2 σ
  intro id hid
  rw[hG]at hid⊢
  exact hK _ _ (stays_cons hid) (h id hid)
 case newB x=>
  have h:newK (asV (fin.ev x)) t K fin:=h
  show newK (asV (σ.ev x)) t K2 σ
  rw[ev_slots hv]
  unfold newK at h⊢
  split at h
  ·intro id hid
   rw[hG]at hid⊢
   exact hK _ _ (stays_cons hid) (h id hid)
  ·exact h.elim
 case appR sz bytes z x y=>
  have h:appRK sz bytes z K fin t (fin.ev x) (rowO fin.G sz (asV (fin.ev y))):=h
  show appRK sz bytes z K2 σ t (σ.ev x) (rowO σ.G sz (asV (σ.ev y)))
  rw[ev_slots (x:=x) (fun s hs=>hv s (l1 s hs)),ev_slots (x:=y) (fun s hs=>hv s (l2 s hs)),hG]
  have a0:∀d0 ys,appR0 sz bytes z d0 ys K fin t→appR0 sz bytes z d0 ys K2 σ t:=fun d0 ys h=>⟨h.1,fun e=>here _ (h.2.1 e),fun e=>appNew_map hG hK (h.2.2 e)⟩
  unfold appRK at h⊢
  split at h
  ·exact a0 _ _ h
  ·exact a0 _ _ h
  ·exact a0 _ _ h
  ·rename_i id sz' off n c ys e1 e2
   obtain⟨h1,h2⟩:=h
   refine⟨h1,?_⟩
   cases hl:look fin.G id with
   |none=>rw[hl]at h2;exact h2.elim
   |some X=>
    rw[hl]at h2
    cases X<;>simp only[appR1]at h2<;>try (exact h2.elim)
    rename_i L
    show appR1 _ _ _ _ _ _ _ _ _ _ _ (look σ.G id)
    rw[hG,hl]
    refine⟨h2.1,fun e=> ?_,fun e=>appNew_map hG hK (h2.2.2 e)⟩
    obtain⟨h3,h4⟩:=h2.2.1 e
    refine⟨h3,?_⟩
    rw[hG]
    exact hK _ _ (stays_upd hl (V.same_symm (by simpa only[V.same]using h3))) h4
  ·exact h.elim
/-! chains -/
theorem Chain.eqvR:∀{l:List It} {σ fin fin2:St},Chain E C l σ fin→Eqv fin fin2→Chain E C l σ fin2
 |[],σ,fin,fin2,h,e=>h.trans e
 |r::l,σ,fin,fin2,h,e=>⟨h.1,Chain.eqvR h.2 e⟩
theorem Chain.frame:∀{l:List It} {σ fin:St},Chain E C l σ fin→(∀r∈l,r.F.gw=false)→fin.G=σ.G∧∀s,(∀r∈l,s∉r.i.wr)→getv fin.vs s=getv σ.vs s∧look fin.ts s=look σ.ts s
 |[],σ,fin,h,hg=>⟨h.G,fun s _=>⟨by rw[h.vs],h.ts s⟩⟩
 |r::l,σ,fin,h,hg=>by
  obtain⟨h1,h2⟩:=Chain.frame h.2 (fun x hx=>hg x (List.mem_cons_of_mem _ hx))
  have hGn:r.δ.G=none:=by
   cases e:r.δ.G with
   |none=>rfl
   |some q=>
    have:=h.1.obj (by rw[e];rfl)
    rw[hg r (List.mem_cons_self ..)]at this;cases this
  refine⟨h1.trans (by rw[app_G,hGn];rfl),fun s hs=> ?_⟩
  obtain⟨h3,h4⟩:=h2 s (fun x hx=>hs x (List.mem_cons_of_mem _ hx))
  have h5:=app_read (ε:=r.δ) (σ:=σ) (s:=s) (fun hw=>hs r (List.mem_cons_self ..) (h.1.wr s hw))
  exact⟨h3.trans h5.1,h4.trans h5.2⟩
theorem put_withG (σ:St) (t:AD) (d:D) (G':List (Nat×V)):({ σ.put t d with G:=G' }:St)=({ σ with G:=G' }:St).put t d:=by cases t<;>rfl
theorem app_wild {δ:Dl} {σ:St} {t:AD} {d:D} {G':List (Nat×V)} (hG:δ.G=none) (ht:∀s∈adN t,s∉δ.wr):Eqv (({ δ.app σ with G:=G' }:St).put t d) (δ.app (({ σ with G:=G' }:St).put t d)):=by
 rw[app_eq,app_eq,mem_put,put_withG,put_withG]
 have hm:({ δ.mem σ with G:=G' }:St)=δ.mem { σ with G:=G' }:=by unfold Dl.mem;rw[hG];rfl
 rw[hm]
 have c1:∀{τ:St} {a:D},Eqv ((τ.put δ.d.1 a).put t d) ((τ.put t d).put δ.d.1 a):=(put_comm (fun s h1 h2=>ht s h1 (l1 s h2))).symm
 have c2:∀{τ:St} {a:D},Eqv ((τ.put δ.f.1 a).put t d) ((τ.put t d).put δ.f.1 a):=(put_comm (fun s h1 h2=>ht s h1 (l2 s h2))).symm
 exact c1.trans (c2.put _ _)
theorem Chain.wild {t:AD} {d:D} {G':List (Nat×V)}:∀{l:List It} {σ fin:St},Chain E C l σ fin→(∀r∈l,(∀s∈adN t,s∉r.i.rd∧s∉r.i.wr)∧r.F.gr=false∧r.F.gw=false)→Stays σ.G G'→
    Chain E C l (({ σ with G:=G' }:St).put t d) (({ fin with G:=G' }:St).put t d)
  |[],σ,fin,h,_,_=>by
    obtain⟨vs,ts,L,G⟩:=σ
    obtain⟨vs2,ts2,L2,G2⟩:=fin
    obtain⟨e1,e2,e3,e4⟩:=h
    simp only at e1 e2 e3 e4;subst e1;subst e3;subst e4
    exact (show Eqv (⟨_,ts,_,G'⟩:St) ⟨_,ts2,_,G'⟩from⟨rfl,e2,rfl,rfl⟩).put t d
  |r::l,σ,fin,h,hr,hs=>by
    obtain⟨k1,k2,k3⟩:=hr r (List.mem_cons_self ..)
    have hGn:r.δ.G=none:=by
      cases e:r.δ.G with
      |none=>rfl
      |some q=>
        have:=h.1.obj (by rw[e];rfl)
        rw[k3]at this;cases this
    have hag:Agree r.i.rd r.F σ (({ σ with G:=G' }:St).put t d):=
      { v:=fun s hs2=>by
          have:=put_read (σ:={ σ with G:=G' }) (t:=t) (d:=d) (s:=s) (fun hc=>(k1 s hc).1 hs2)
          exact this
        len:=by rw[put_L]
        eq:=fun k _=>by rw[put_L]
        sh:=fun k x _ hx=>⟨x,by rw[put_L];exact hx,V.same_refl _⟩
        g:=fun hg=>by rw[k2,k3]at hg;rcases hg with hg|hg<;>cases hg
        gs:=fun id x hx=>by rw[put_G];exact hs id x hx }
    refine⟨h.1.agree hag,?_⟩
    have ih:=Chain.wild (t:=t) (d:=d) (G':=G') h.2 (fun x hx=>hr x (List.mem_cons_of_mem _ hx)) (by rw[app_G,hGn];exact hs)
    exact ih.eqv (app_wild hGn (fun s hs2 hw=>(k1 s hs2).2 (h.1.wr s hw)))
theorem Chain.append:∀{l l2:List It} {σ τ fin:St},Chain E C l σ τ→Chain E C l2 τ fin→Chain E C (l++l2) σ fin
 |[],l2,σ,τ,fin,h,h2=>h2.eqv h.symm
 |r::l,l2,σ,τ,fin,h,h2=>⟨h.1,Chain.append h.2 h2⟩
end Go.Abs
namespace Go.Abs
open Go Go.RowKit
set_option linter.unusedVariables false
set_option linter.unusedSimpArgs false
variable {E:Env} {C:Spec} {c:Ctx} {m:Mem} {σ:St} {a:Act} {w:World}
def predsO (ops:Array Oper) (i:Nat):List Nat:=match ops[i]? with
 |some o=>predsOf o
 |none=>[]
def Runs (i:PI) (fin:St):Prop:=wild i.op=true∧(i.guard=none∨∃t want d,i.guard=some (t,want)∧fin.ev t=some d∧∀f h σ2,guardO t want (some d) f h σ2=f (σ2.put t.ad d))
structure Left (ops:Array Oper) (T:List (List Nat)) (dep:List (Nat×Nat)) (R:List It) (post:List (Nat×PI)) (fs:List (Nat×Foot)):Prop where
 ord:(R.map (·.n)++post.map (·.1)).Pairwise fun x y=>x≠y∧y∉predsO ops x
 self:∀x∈R.map (·.n)++post.map (·.1),x∉predsO ops x
 rr:R.Pairwise fun x y=>x.n∈getW T y.n∨Apart x y
 rp:∀r∈R,∀y∈post,r.n∈getW T y.1∨(apartI r.i y.2=true∧(apartC (clsO r.i.op) (clsO y.2.op)=true∨(r.n,y.1)∈dep))
 pp:post.Pairwise fun x y=>x.1∈getW T y.1∨(wild x.2.op=false∧apartI x.2 y.2=true∧(apartC (clsO x.2.op) (clsO y.2.op)=true∨(x.1,y.1)∈dep))
 ft:∀r∈R,getA fs r.n=r.F∧∃τ,r.F=foot τ r.i.op∨r.F=noF
theorem chkL_mem:∀{dep:List (Nat×Nat)} {i j:Nat} {fs:List (Nat×Foot)} {F:Foot},chkL dep j fs F→(i,j)∈dep→apartF (getA fs i) F=true
 |[],_,_,_,_,_,h=>by simp at h
 |(a,b)::dep,i,j,fs,F,h,hm=>by
  rcases List.mem_cons.1 hm with e|hm
  ·cases e;exact h.1 rfl
  ·exact chkL_mem h.2 hm
theorem getA_ne {k:Nat} {F:Foot} {fs:List (Nat×Foot)} {a:Nat} (h:a≠k):getA ((k,F)::fs) a=getA fs a:=by
 have:(a==k)=false:=by simpa using h
 simp[getA,this]
theorem getA_eq {k:Nat} {F:Foot} {fs:List (Nat×Foot)}:getA ((k,F)::fs) k=F:=by simp[getA]
theorem apartF_no (F:Foot):apartF F noF=true:=by
 unfold apartF noF;simp[neO]
theorem Left.move {ops:Array Oper} {T:List (List Nat)} {dep:List (Nat×Nat)} {R:List It} {k:Nat} {i:PI} {post:List (Nat×PI)} {fs:List (Nat×Foot)} (h:Left ops T dep R ((k,i)::post) fs) {F:Foot} {δ:Dl} (hF:∃τ,F=foot τ i.op∨F=noF) (hc:F=noF∨chkL dep k fs F):
  Left ops T dep (R++[⟨k,i,F,δ⟩]) post ((k,F)::fs):=by
 have ordk:∀r∈R,r.n≠k:=fun r hr=>by
  have:=(List.pairwise_append.1 h.ord).2.2 r.n (List.mem_map_of_mem hr) k (by simp)
  exact this.1
 refine⟨by simpa using h.ord,by simpa using h.self,?_,?_,?_,?_⟩
 ·refine List.pairwise_append.2 ⟨h.rr,by simp,fun x hx y hy=> ?_⟩
  have hy:y=⟨k,i,F,δ⟩:=by simpa using hy
  subst hy
  rcases h.rp x hx (k,i) (List.mem_cons_self ..)with h1|⟨h1,h2⟩
  ·exact .inl h1
  ·right
   refine⟨h1,?_⟩
   obtain⟨g1,τ1,g2⟩:=h.ft x hx
   obtain⟨τ,hF⟩:=hF
   rcases h2 with h2|h2
   ·refine apartC_spec ?_ ?_ h2
    ·rcases g2 with g2|g2
     ·rw[g2];exact foot_cov _ _
     ·rw[g2];exact cov_no _
    ·rcases hF with hF|hF
     ·show Cov _ F;rw[hF];exact foot_cov _ _
     ·show Cov _ F;rw[hF];exact cov_no _
   ·rcases hc with hc|hc
    ·show apartF _ F=true
     rw[hc];exact apartF_no _
    ·have:=chkL_mem hc h2
     rw[g1]at this;exact this
 ·intro r hr y hy
  rcases List.mem_append.1 hr with hr|hr
  ·exact h.rp r hr y (List.mem_cons_of_mem _ hy)
  ·have hr:r=⟨k,i,F,δ⟩:=by simpa using hr
   subst hr
   rcases (List.pairwise_cons.1 h.pp).1 y hy with h1|⟨_,h1,h2⟩
   ·exact .inl h1
   ·exact .inr ⟨h1,h2⟩
 ·exact (List.pairwise_cons.1 h.pp).2
 ·intro r hr
  rcases List.mem_append.1 hr with hr|hr
  ·obtain⟨g1,g2⟩:=h.ft r hr
   exact⟨by rw[getA_ne (ordk r hr)];exact g1,g2⟩
  ·have hr:r=⟨k,i,F,δ⟩:=by simpa using hr
   subst hr
   exact⟨getA_eq,hF⟩
theorem Chain.snoc {r:It} {l:List It} {σ fin τ:St} (h:Chain E C l σ fin) (h1:LocI E C r.i r.F fin r.δ) (h2:Eqv (r.δ.app fin) τ):Chain E C (l++[r]) σ τ:=h.append ⟨h1,h2⟩
theorem post_step (hdet:C.Det) {k:Nat} {i:PI} {post:List (Nat×PI)} {fs:List (Nat×Foot)} {dep:List (Nat×Nat)} {K:St→Prop} {fin:St} (h:WopsW E C ((k,i)::post) fs dep K fin):
  Runs i fin∨∃F δ τ,(∃τ,F=foot τ i.op∨F=noF)∧LocI E C i F fin δ∧Eqv (δ.app fin) τ∧(F=noF∨chkL dep k fs F)∧WopsW E C post ((k,F)::fs) dep K τ:=by
 have tame:wild i.op=false→StepD E C i (fun F τ=>(F=noF∨chkL dep k fs F)∧WopsW E C post ((k,F)::fs) dep K τ) fin→∃F δ τ,(∃τ,F=foot τ i.op∨F=noF)∧LocI E C i F fin δ∧Eqv (δ.app fin) τ∧(F=noF∨chkL dep k fs F)∧WopsW E C post ((k,F)::fs) dep K τ:=by
  intro _ hs
  obtain⟨F,δ,τ,h1,h2,h3,h4,h5⟩:=stepD_local hdet hs
  exact⟨F,δ,τ,⟨fin,h1⟩,h2,h3,h4,h5⟩
 have conv:wild i.op=false→∀(K':St→Prop) (τ:St) (F:Foot),(chkL dep k fs F∧WopW E C i.dst i.op K' τ)→WopD E C i.dst i.op (fun τ=>(F=noF∨chkL dep k fs F)∧K' τ) τ:=by
  intro hw K' τ F ⟨h1,h2⟩
  have h2:WopD E C i.dst i.op K' τ:=by
   revert hw h2
   cases i.op<;>intro hw h2<;>first|exact h2|(simp[wild]at hw)
  exact wopD_mono hdet h2 fun τ h=>⟨.inr h1,h⟩
 cases hw:wild i.op with
 |false=>
  right
  refine tame hw ?_
  cases hg:i.guard with
  |none=>
   simp only[WopsW,hg]at h
   unfold StepD;rw[hg]
   exact conv hw _ _ _ h
  |some q=>
   obtain⟨t,want⟩:=q
   simp only[WopsW,hg]at h
   unfold StepD;rw[hg]
   simp only[guardO,skipK]at h⊢
   split at h
   ·split at h
    ·rename_i e;rw[if_pos e];exact conv hw _ _ _ h
    ·rename_i e;rw[if_neg e];exact⟨by first|exact .inl rfl|exact .inl trivial,h⟩
   ·split at h
    ·rename_i e;rw[if_pos e];exact⟨by first|exact .inl rfl|exact .inl trivial,h⟩
    ·rename_i e;rw[if_neg e];exact conv hw _ _ _ h
   ·exact⟨by first|exact .inl rfl|exact .inl trivial,h⟩
   ·exact h.elim
 |true=>
  cases hg:i.guard with
  |none=>exact .inl ⟨hw,.inl hg⟩
  |some q=>
   obtain⟨t,want⟩:=q
   simp only[WopsW,hg]at h
   have skip:∀d,fin.ev t=some d→(∀f h σ2,guardO t want (some d) f h σ2=h σ2∨guardO t want (some d) f h σ2=h (σ2.put t.ad d))→(∃τ,Eqv fin τ∧skipK i.dst (WopsW E C post ((k,noF)::fs) dep K) τ)→
     ∃F δ τ,(∃τ,F=foot τ i.op∨F=noF)∧LocI E C i F fin δ∧Eqv (δ.app fin) τ∧(F=noF∨chkL dep k fs F)∧WopsW E C post ((k,F)::fs) dep K τ:=by
    rintro d hd hs ⟨τ,he,hk⟩
    exact⟨noF,_,_,⟨fin,.inr rfl⟩,skip_loc hg hd hs,he.put i.dst .un,.inl rfl,hk⟩
   cases hd:fin.ev t with
   |none=>rw[hd]at h;exact h.elim
   |some d=>
    rw[hd]at h
    by_cases h1:d= .v (.bool true)
    ·subst h1
     cases want with
     |true=>exact .inl ⟨hw,.inr ⟨t,true,_,hg,hd,fun _ _ _=>rfl⟩⟩
     |false=>exact .inr (skip _ hd (fun _ _ _=> .inr rfl) ⟨_,eqv_again hd,h⟩)
    ·by_cases h2:d= .v (.bool false)
     ·subst h2
      cases want with
      |true=>exact .inr (skip _ hd (fun _ _ _=> .inr rfl) ⟨_,eqv_again hd,h⟩)
      |false=>exact .inl ⟨hw,.inr ⟨t,false,_,hg,hd,fun _ _ _=>rfl⟩⟩
     ·by_cases h3:d= .un
      ·subst h3
       exact .inr (skip _ hd (fun _ _ _=> .inl rfl) ⟨fin,Eqv.refl _,h⟩)
      ·exfalso
       simp only[guardO]at h
       split at h
       ·rename_i e;cases e;exact h1 rfl
       ·rename_i e;cases e;exact h2 rfl
       ·rename_i e;cases e;exact h3 rfl
       ·exact h
theorem normal (hdet:C.Det) {ops:Array Oper} {T:List (List Nat)} {dep:List (Nat×Nat)} {K:St→Prop} {σ:St}:∀(post:List (Nat×PI)) (R:List It) (fs:List (Nat×Foot)) (fin:St),Chain E C R σ fin→WopsW E C post fs dep K fin→Left ops T dep R post fs→
  ∃R' post' fs' fin',Chain E C R' σ fin'∧WopsW E C post' fs' dep K fin'∧Left ops T dep R' post' fs'∧R'.map (fun r=>(r.n,r.i))++post'=R.map (fun r=>(r.n,r.i))++post∧(post'=[]∨∃k i p,post'=(k,i)::p∧Runs i fin')
 |[],R,fs,fin,h1,h2,h3=>⟨R,[],fs,fin,h1,h2,h3,rfl,.inl rfl⟩
 |(k,i)::post,R,fs,fin,h1,h2,h3=>by
  rcases post_step hdet h2 with hr|⟨F,δ,τ,g1,g2,g3,g4,g5⟩
  ·exact⟨R,(k,i)::post,fs,fin,h1,h2,h3,rfl,.inr ⟨k,i,post,rfl,hr⟩⟩
  ·obtain⟨R',post',fs',fin',k1,k2,k3,k4,k5⟩:=normal hdet post (R++[⟨k,i,F,δ⟩]) ((k,F)::fs) τ (h1.snoc g2 g3) g5 (h3.move g1 g4)
   exact⟨R',post',fs',fin',k1,k2,k3,by rw[k4];simp,k5⟩
theorem Left.take {ops:Array Oper} {T:List (List Nat)} {dep:List (Nat×Nat)} {A B:List It} {r:It} {post:List (Nat×PI)} {fs:List (Nat×Foot)} (h:Left ops T dep (A++r::B) post fs):Left ops T dep (A++B) post fs:=by
 have hsub:(A++B).Sublist (A++r::B):=List.Sublist.append_left (List.sublist_cons_self r B) A
 have hs2:((A++B).map (·.n)++post.map (·.1)).Sublist ((A++r::B).map (·.n)++post.map (·.1)):=(hsub.map _).append_right _
 exact⟨h.ord.sublist hs2,fun x hx=>h.self x (hs2.subset hx),h.rr.sublist hsub,fun x hx=>h.rp x (hsub.subset hx),h.pp,fun x hx=>h.ft x (hsub.subset hx)⟩
theorem Left.tail {ops:Array Oper} {T:List (List Nat)} {dep:List (Nat×Nat)} {R:List It} {k:Nat} {i:PI} {post:List (Nat×PI)} {fs:List (Nat×Foot)} {F:Foot} (h:Left ops T dep R ((k,i)::post) fs):Left ops T dep R post ((k,F)::fs):=by
 have hs2:(R.map (·.n)++post.map (·.1)).Sublist (R.map (·.n)++((k,i)::post).map (·.1)):=List.Sublist.append_left (by simp) _
 refine⟨h.ord.sublist hs2,fun x hx=>h.self x (hs2.subset hx),h.rr,fun x hx y hy=>h.rp x hx y (List.mem_cons_of_mem _ hy),(List.pairwise_cons.1 h.pp).2,fun r hr=> ?_⟩
 obtain⟨g1,g2⟩:=h.ft r hr
 have:=((List.pairwise_append.1 h.ord).2.2 r.n (List.mem_map_of_mem hr) k (by simp)).1
 exact⟨by rw[getA_ne this];exact g1,g2⟩
def StepR (E:Env) (i:PI) (K:St→Prop) (σ:St):Prop:=match i.guard with
 |none=>Wop E (retC E) i.dst i.op K σ
 |some (t,want)=>guardO t want (σ.ev t) (Wop E (retC E) i.dst i.op K) (skipK i.dst K) σ
theorem op_stepR {ops:Array Oper} {i:Nat} {o:Oper} {rr:Option Nat} {pi:PI} {K:St→Prop} {next:Act→World→Prop} {QQ:Exit→Act→World→Prop} (h:InvW c m σ a w) (hP:c.P=E.P) (htab:c.tab=E.tab)
  (hoi:ops[i]? =some o) (h1:prepI c.P c.K c.N ops.toList rr o=some pi) (hW:StepR E pi K σ) (ih:∀σ' m' a' w',InvW c m' σ' a' w'→K σ'→next a' w'):wpOp c.P ops QQ i next a w:=by
 unfold prepI at h1
 split at h1
 ·rename_i t g hd hg
  cases h1
  simp only[wpOp,hoi]
  have go:∀σ,InvW c m σ a w→Wop E (retC E) t ((prepOp c.P c.K ops.toList rr o).getD .bad) K σ→o.wp c.P a w next QQ:=by
   intro σ h hW
   cases hpo:prepOp c.P c.K ops.toList rr o with
   |none=>rw[hpo]at hW;exact False.elim hW
   |some po=>
    rw[hpo]at hW
    exact Wop_sound (C:=retC E) (fun _ _ _ _ h=>h) h hP htab (by rw[h.vsK];exact hpo) (by rw[h.vsK];exact hd) hW ih
  have skip:∀σ,InvW c m σ a w→skipK t K σ→next (a.put o.dst undef) w:=by
   intro σ h hW
   exact ih _ m _ w (h.put (by rw[h.vsK];exact hd) (d:= .un) (v:=undef) rfl) hW
  cases hgd:o.guard with
  |none=>
   rw[hgd]at hg;simp only[prepG]at hg;cases hg
   have hwant:Region.wanted o (yielded ops a.tmps)=true:=by simp[Region.wanted,hgd]
   rw[if_pos hwant]
   exact .inl (go σ h hW)
  |some jw=>
   obtain⟨j,want⟩:=jw
   rw[hgd]at hg
   obtain⟨s,hs,rfl⟩:=prepG_spec hg
   replace hW:guardO (if s < c.K then .v s else .t s) want (σ.ev (if s < c.K then .v s else .t s)) (Wop E (retC E) t ((prepOp c.P c.K ops.toList rr o).getD .bad) K) (skipK t K) σ:=hW
   have hy:∀d,σ.ev (if s < c.K then .v s else .t s)=some d→(∀b,d= .v (.bool b)→yielded ops a.tmps j=some b)∧(d= .un→yielded ops a.tmps j=none):=by
    intro d hd
    obtain⟨e1,e2⟩:=ev_tmp h hd
    have e3:=tmps_get h.size e1
    refine⟨fun b hb=> ?_,fun hb=> ?_⟩
    ·subst hb
     have e2:RepW w _ (.bool b) _:=e2
     simp only[RepW,V.isAgg,Bool.false_eq_true,if_false,RepV,List.cons.injEq,and_true]at e2
     simp only[yielded,hs,Option.bind_some,e3,e2]
    ·subst hb
     have e2:_=undef:=e2
     simp only[yielded,hs,Option.bind_some,e3];rw[e2];rfl
   cases hev:σ.ev (if s < c.K then .v s else .t s)with
   |none=>rw[hev]at hW;exact hW.elim
   |some d=>
    obtain⟨y1,y2⟩:=hy d hev
    rw[hev]at hW
    simp only[guardO]at hW
    split at hW
    ·rename_i e;cases e
     have y:=y1 true rfl
     have h':=h.again hev
     split at hW
     ·rename_i hw;subst hw
      have hwant:Region.wanted o (yielded ops a.tmps)=true:=by simp[Region.wanted,hgd,y]
      rw[if_pos hwant];exact .inl (go _ h' hW)
     ·rename_i hw
      have hwant:Region.wanted o (yielded ops a.tmps)=false:=by cases want<;>simp_all [Region.wanted]
      rw[if_neg (by rw[hwant];exact Bool.false_ne_true)];exact skip _ h' hW
    ·rename_i e;cases e
     have y:=y1 false rfl
     have h':=h.again hev
     split at hW
     ·rename_i hw;subst hw
      have hwant:Region.wanted o (yielded ops a.tmps)=false:=by simp[Region.wanted,hgd,y]
      rw[if_neg (by rw[hwant];exact Bool.false_ne_true)];exact skip _ h' hW
     ·rename_i hw
      have hwant:Region.wanted o (yielded ops a.tmps)=true:=by cases want<;>simp_all [Region.wanted]
      rw[if_pos hwant];exact .inl (go _ h' hW)
    ·rename_i e;cases e
     have y:=y2 rfl
     have hwant:Region.wanted o (yielded ops a.tmps)=false:=by simp[Region.wanted,hgd,y]
     rw[if_neg (by rw[hwant];exact Bool.false_ne_true)];exact skip _ h hW
    ·exact hW.elim
 ·cases h1
theorem wild_front (hC:C.Sound E) {R:List It} {k:Nat} {i:PI} {post:List (Nat×PI)} {fs:List (Nat×Foot)} {dep:List (Nat×Nat)} {K:St→Prop} {σ fin:St} (hc:Chain E C R σ fin) (hR:∀r∈R,apartI r.i i=true∧r.F.gr=false∧r.F.gw=false)
  (h:WopsW E C ((k,i)::post) fs dep K fin) (hr:Runs i fin):∃F,StepR E i (fun τ=>∃fin',Chain E C R τ fin'∧WopsW E C post ((k,F)::fs) dep K fin') σ:=by
 obtain⟨hw,hg⟩:=hr
 obtain⟨e1,e2⟩:=Chain.frame hc (fun r hr=>(hR r hr).2.2)
 have hap:∀r∈R,(∀s∈r.i.wr,s∉i.rd∧s∉i.wr)∧∀s∈i.wr,s∉r.i.rd:=fun r hr=>by
  have:=(hR r hr).1
  simp only[apartI,Bool.and_eq_true]at this
  exact⟨fun s hs=>⟨fun h=>disj_spec this.1 s hs (l1 s h),fun h=>disj_spec this.1 s hs (l2 s h)⟩,fun s hs=>disj_spec this.2 s hs⟩
 have hsl:∀s∈i.rd,getv σ.vs s=getv fin.vs s∧look σ.ts s=look fin.ts s:=fun s hs=>by
  obtain⟨a1,a2⟩:=e2 s (fun r hr hw=>((hap r hr).1 s hw).1 hs)
  exact⟨a1.symm,a2.symm⟩
 have hdst:∀r∈R,∀s∈adN i.dst,s∉r.i.rd∧s∉r.i.wr:=fun r hr s hs=>by
  have hsw:s∈i.wr:=by unfold PI.wr;exact l1 s hs
  exact⟨(hap r hr).2 s hsw,fun h=>((hap r hr).1 s h).2 hsw⟩
 rcases hg with hg|⟨t,want,d,hg,hd,hf⟩
 ·simp only[WopsW,hg]at h
  refine⟨foot fin i.op,?_⟩
  unfold StepR;rw[hg]
  refine wild_map hC hw h.2 (fun s hs=>hsl s (by unfold PI.rd;exact l1 s hs)) e1.symm fun G' d hst hk=> ?_
  exact⟨_,Chain.wild hc (fun r hr=>⟨hdst r hr,(hR r hr).2⟩) (by rw[←e1];exact hst),hk⟩
 ·simp only[WopsW,hg]at h
  rw[hd,hf]at h
  have hd2:σ.ev t=some d:=by
   rw[ev_slots (x:=t) (τ:=fin) (fun s hs=>hsl s (by unfold PI.rd;rw[hg];exact l2 s hs))];exact hd
  have q1:=eqv_again hd
  have q2:=eqv_again hd2
  refine⟨foot fin i.op,?_⟩
  unfold StepR;rw[hg];simp only[hd2];rw[hf]
  refine wild_map hC hw h.2 (fun s hs=> ?_) (by rw[q2.G,q1.G];exact e1.symm) fun G' d' hst hk=> ?_
  ·have:=hsl s (by unfold PI.rd;exact l1 s hs)
   exact⟨by rw[q2.vs,q1.vs];exact this.1,by rw[q2.ts,q1.ts];exact this.2⟩
  ·exact⟨_,Chain.wild ((hc.eqv q2).eqvR q1) (fun r hr=>⟨hdst r hr,(hR r hr).2⟩) (by rw[q2.G,←e1,←q1.G];exact hst),hk⟩
theorem foot_wild {o:PO} (h:wild o=true) (τ:St):foot τ o=⟨none,none,none,none,true,true⟩:=by
 cases o<;>simp[wild]at h<;>rfl
theorem apartF_wild {F:Foot} (h:apartF F ⟨none,none,none,none,true,true⟩=true):F.gr=false∧F.gw=false:=by
 simp only[apartF,Bool.and_eq_true,Bool.not_eq_true']at h
 obtain⟨⟨_,h1⟩,h2⟩:=h
 constructor
 ·cases e:F.gr<;>simp_all
 ·cases e:F.gw<;>simp_all
theorem any_soundW (hC:C.Sound E) (hdet:C.Det) (hP:c.P=E.P) (htab:c.tab=E.tab) {ops:Array Oper} {T:List (List Nat)} {dep:List (Nat×Nat)} {K:St→Prop} {QQ:Exit→Act→World→Prop}
  (hT:∀i o,ops[i]? =some o→∀x∈getW T i,∃j∈predsOf o,x=j∨x∈getW T j) (hb:∀(i:Nat) o,ops[i]? =some o→∀p∈predsOf o,p < ops.size)
  (hQ:∀σ m a w,InvW c m σ a w→K σ→QQ .normal a w):∀(n:Nat) (R:List It) (post:List (Nat×PI)) (fs:List (Nat×Foot)) (listed:Array Bool) (σ fin:St) (m:Mem) (a:Act) (w:World),R.length+post.length=n→InvW c m σ a w→Chain E C R σ fin→WopsW E C post fs dep K fin→
   listed.size=ops.size→(∀j,j < ops.size→(listed.getD j true=false↔j∈R.map (·.n)++post.map (·.1)))→(∀x∈R.map (fun r=>(r.n,r.i))++post,∃o rr,ops[x.1]? =some o∧prepI c.P c.K c.N ops.toList rr o=some x.2)→
   Left ops T dep R post fs→(∀j,listed.getD j false=true→∀x∈getW T j,listed.getD x false=true)→wpAny c.P .any ops QQ n listed a w:=by
 intro n
 induction n with
 |zero=>
  intro R post fs listed σ fin m a w hn h hc hp hsz hl hops hlf hcl
  have hR:R=[]:=List.length_eq_zero_iff.1 (by omega)
  have hp0:post=[]:=List.length_eq_zero_iff.1 (by omega)
  subst hR;subst hp0
  refine⟨?_,hQ fin m a w (h.eqv hc) hp⟩
  apply List.eq_nil_iff_forall_not_mem.2
  intro j hj
  obtain⟨h1,o,h2,_⟩:=mem_ready.1 hj
  have hlt:=(Array.getElem?_eq_some_iff.1 h2).1
  have:=(hl j hlt).1 h1
  simp at this
 |succ n ih=>
  intro R0 post0 fs0 listed σ fin0 m a w hn h hc0 hp0 hsz hl0 hops0 hlf0 hcl
  obtain⟨R,post,fs,fin,hc,hp,hlf,hsame,hhead⟩:=normal hdet post0 R0 fs0 fin0 hc0 hp0 hlf0
  have hlen:R.length+post.length=n+1:=by
   have:=congrArg List.length hsame
   simp only[List.length_append,List.length_map]at this;omega
  have hnames:R.map (·.n)++post.map (·.1)=R0.map (·.n)++post0.map (·.1):=by
   have:=congrArg (List.map Prod.fst) hsame
   simpa [List.map_append,List.map_map,Function.comp_def]using this
  have hl:∀j,j < ops.size→(listed.getD j true=false↔j∈R.map (·.n)++post.map (·.1)):=by rw[hnames];exact hl0
  have hops:∀x∈R.map (fun r=>(r.n,r.i))++post,∃o rr,ops[x.1]? =some o∧prepI c.P c.K c.N ops.toList rr o=some x.2:=by rw[hsame];exact hops0
  have hopn:∀x∈R.map (·.n)++post.map (·.1),∃o,ops[x]? =some o:=by
   intro x hx
   have:x∈(R.map (fun r=>(r.n,r.i))++post).map Prod.fst:=by
    simpa [List.map_append,List.map_map,Function.comp_def]using hx
   obtain⟨y,hy,rfl⟩:=List.mem_map.1 this
   obtain⟨o,_,ho,_⟩:=hops y hy
   exact⟨o,ho⟩
  clear hl0 hops0 hlf0 hc0 hp0 hn hsame hnames
  refine⟨fun hr0=> ?_,fun j hj=> ?_⟩
  ·exfalso
   obtain⟨x,M,hM⟩:∃x M,R.map (·.n)++post.map (·.1)=x::M:=by
    cases e:R.map (·.n)++post.map (·.1)with
    |nil=>have:=congrArg List.length e;simp only[List.length_append,List.length_map,List.length_nil]at this;omega
    |cons x M=>exact⟨x,M,rfl⟩
   obtain⟨o,ho⟩:=hopn x (by rw[hM];exact List.mem_cons_self ..)
   have hlt:=(Array.getElem?_eq_some_iff.1 ho).1
   have:x∈Region.ready .any ops listed:=by
    rw[mem_ready]
    refine⟨(hl _ hlt).2 (by rw[hM];exact List.mem_cons_self ..),o,ho,fun e he hbb=> ?_⟩
    have hpm:e.on∈predsOf o:=predsOf_mem.2 ⟨e,he,hbb,rfl⟩
    have hlt2:=hb x o ho _ hpm
    rw[←getD_tf (by omega)]
    cases hx:listed.getD e.on true with
    |true=>rfl
    |false=>
     exfalso
     have hmem:=(hl _ hlt2).1 hx
     have hpo:predsO ops x=predsOf o:=by unfold predsO;rw[ho]
     rw[hM]at hmem
     rcases List.mem_cons.1 hmem with e1|hmem
     ·have:=hlf.self x (by rw[hM];exact List.mem_cons_self ..)
      rw[hpo]at this;rw[←e1]at this;exact this (by rw[e1]at hpm⊢;exact hpm)
     ·have:=hlf.ord
      rw[hM]at this
      have:=((List.pairwise_cons.1 this).1 _ hmem).2
      rw[hpo]at this;exact this hpm
   rw[hr0]at this;cases this
  ·obtain⟨h1,o,ho,hall⟩:=mem_ready.1 hj
   have hlt:=(Array.getElem?_eq_some_iff.1 ho).1
   have hmem:=(hl j hlt).1 h1
   have hpreds:∀p∈predsOf o,listed.getD p false=true:=fun p hp=>by
    obtain⟨e,h3,h4,rfl⟩:=predsOf_mem.1 hp
    exact hall e h3 h4
   have hwt:∀x∈getW T j,listed.getD x false=true:=fun x hx=>by
    obtain⟨p,hp,h3⟩:=hT _ o ho x hx
    rcases h3 with rfl|h3
    ·exact hpreds _ hp
    ·exact hcl p (hpreds p hp) x h3
   have hnotw:∀x∈R.map (·.n)++post.map (·.1),x∉getW T j:=fun x hx hw=>by
    have h5:=hwt _ hw
    obtain⟨ox,hox⟩:=hopn x hx
    have hxlt:=(Array.getElem?_eq_some_iff.1 hox).1
    have h6:=(hl x hxlt).2 hx
    rw[getD_tf (by omega),h5]at h6;cases h6
   have hcl2:∀j',(listed.setIfInBounds j true).getD j' false=true→∀x∈getW T j',(listed.setIfInBounds j true).getD x false=true:=by
    intro j2 hj2 x hx
    by_cases e:j2=j
    ·subst e;exact getD_set_true (hwt x hx)
    ·rw[getD_set_ne false (fun e'=>e e'.symm)]at hj2
     exact getD_set_true (hcl j2 hj2 x hx)
   have hlist:∀(M':List Nat),(∀x,x∈M'↔(x∈R.map (·.n)++post.map (·.1)∧x≠j))→∀j',j' < ops.size→((listed.setIfInBounds j true).getD j' true=false↔j'∈M'):=by
    intro M' hM' j' hj'
    rw[hM']
    by_cases e:j'=j
    ·subst e
     have:(listed.setIfInBounds j' true).getD j' true=true:=by simp[Array.getD]
     rw[this];simp
    ·rw[getD_set_ne true (fun e'=>e e'.symm),hl j' hj']
     simp[e]
   have hnd:(R.map (·.n)++post.map (·.1)).Pairwise (·≠·):=hlf.ord.imp fun h=>h.1
   rcases List.mem_append.1 hmem with hR|hPp
   ·obtain⟨r,hr,rfl⟩:=List.mem_map.1 hR
    obtain⟨A,B,rfl⟩:=List.append_of_mem hr
    obtain⟨o',rr,ho',hpi⟩:=hops (r.n,r.i) (List.mem_append_left _ (List.mem_map.2 ⟨r,hr,rfl⟩))
    simp only at ho' hpi
    rw[ho]at ho';cases ho'
    have hA:∀x∈A,Apart x r:=fun x hx=>by
     rcases (List.pairwise_append.1 hlf.rr).2.2 x hx r (List.mem_cons_self ..)with h4|h4
     ·exact absurd h4 (hnotw x.n (List.mem_append_left _ (List.mem_map.2 ⟨x,List.mem_append_left _ hx,rfl⟩)))
     ·exact h4
    obtain⟨hloc,hrest⟩:=Chain.front hA hc
    refine op_step hC h hP htab ho hpi (hloc.go σ (Agree.refl _ _ _)) ?_
    intro σ' m' a' w' h' he
    refine ih (A++B) post fs _ σ' fin m' a' w' ?_ h' (hrest.eqv he) hp (by simpa using hsz) (hlist _ fun x=> ?_) (fun x hx=>hops x ?_) hlf.take hcl2
    ·simp at hlen⊢;omega
    ·have hnd2:=hnd
     simp only[List.map_append,List.map_cons,List.append_assoc,List.cons_append]at hnd2⊢
     have h7:=(List.pairwise_append.1 hnd2)
     have h8:=List.pairwise_cons.1 h7.2.1
     constructor
     ·intro hx
      rcases List.mem_append.1 hx with hx|hx
      ·exact⟨List.mem_append_left _ hx,h7.2.2 x hx r.n (List.mem_cons_self ..)⟩
      ·exact⟨List.mem_append_right _ (List.mem_cons_of_mem _ hx),fun e=>h8.1 x hx e.symm⟩
     ·rintro⟨hx,hne⟩
      rcases List.mem_append.1 hx with hx|hx
      ·exact List.mem_append_left _ hx
      ·rcases List.mem_cons.1 hx with e|hx
       ·exact absurd e hne
       ·exact List.mem_append_right _ hx
    ·rcases List.mem_append.1 hx with hx|hx
     ·refine List.mem_append_left _ ?_
      simp only[List.map_append,List.map_cons,List.mem_append,List.mem_cons]at hx⊢
      rcases hx with hx|hx
      ·exact .inl hx
      ·exact .inr (.inr hx)
     ·exact List.mem_append_right _ hx
   ·rcases hhead with rfl|⟨k,i,p,rfl,hrun⟩
    ·simp at hPp
    ·have hjk:j=k:=by
      simp only[List.map_cons,List.mem_cons]at hPp
      rcases hPp with e|hPp
      ·exact e
      ·exfalso
       obtain⟨y,hy,rfl⟩:=List.mem_map.1 hPp
       rcases (List.pairwise_cons.1 hlf.pp).1 y hy with h4|⟨h4,_⟩
       ·exact hnotw k (by simp) h4
       ·simp only at h4;rw[hrun.1]at h4;cases h4
     subst hjk
     obtain⟨o',rr,ho',hpi⟩:=hops (j,i) (by simp)
     simp only at ho' hpi
     rw[ho]at ho';cases ho'
     have hRap:∀r∈R,apartI r.i i=true∧r.F.gr=false∧r.F.gw=false:=fun r hr=>by
      rcases hlf.rp r hr (j,i) (List.mem_cons_self ..)with h4|⟨h4,h5⟩
      ·exact absurd h4 (hnotw r.n (List.mem_append_left _ (List.mem_map.2 ⟨r,hr,rfl⟩)))
      ·refine⟨h4,apartF_wild ?_⟩
       obtain⟨g1,τ1,g2⟩:=hlf.ft r hr
       rcases h5 with h5|h5
       ·have h6:Cov (clsO r.i.op) r.F:=by
         rcases g2 with g2|g2
         ·rw[g2];exact foot_cov _ _
         ·rw[g2];exact cov_no _
        have:=apartC_spec h6 (foot_cov σ i.op) h5
        rw[foot_wild hrun.1]at this;exact this
       ·have hck:∃τ,chkL dep j fs (foot τ i.op):=by
         have hp2:=hp
         rcases hrun.2 with hg|⟨t,want,d,hg,hd,hf⟩
         ·simp only[WopsW,hg]at hp2;exact⟨_,hp2.1⟩
         ·simp only[WopsW,hg]at hp2;rw[hd,hf]at hp2;exact⟨_,hp2.1⟩
        obtain⟨τ,hck⟩:=hck
        have:=chkL_mem hck h5
        rw[g1,foot_wild hrun.1]at this;exact this
     obtain⟨F,hst⟩:=wild_front hC hc hRap hp hrun
     refine op_stepR h hP htab ho hpi hst ?_
     rintro σ' m' a' w' h' ⟨fin',hc',hp'⟩
     refine ih R p ((j,F)::fs) _ σ' fin' m' a' w' (by simp at hlen;omega) h' hc' hp' (by simpa using hsz) (hlist _ fun x=> ?_) (fun x hx=>hops x ?_) hlf.tail hcl2
     ·have hnd2:=hnd
      simp only[List.map_cons]at hnd2⊢
      have h7:=(List.pairwise_append.1 hnd2)
      have h8:=List.pairwise_cons.1 h7.2.1
      constructor
      ·intro hx
       rcases List.mem_append.1 hx with hx|hx
       ·exact⟨List.mem_append_left _ hx,h7.2.2 x hx j (List.mem_cons_self ..)⟩
       ·exact⟨List.mem_append_right _ (List.mem_cons_of_mem _ hx),fun e=>h8.1 x hx e.symm⟩
      ·rintro⟨hx,hne⟩
       rcases List.mem_append.1 hx with hx|hx
       ·exact List.mem_append_left _ hx
       ·rcases List.mem_cons.1 hx with e|hx
        ·exact absurd e hne
        ·exact List.mem_append_right _ hx
     ·rcases List.mem_append.1 hx with hx|hx
      ·exact List.mem_append_left _ hx
      ·exact List.mem_append_right _ (List.mem_cons_of_mem _ hx)
end Go.Abs
namespace Go.Abs
open Go Go.RowKit
set_option linter.unusedVariables false
set_option linter.unusedSimpArgs false
variable {E:Env} {C:Spec} {c:Ctx} {m:Mem} {σ:St} {a:Act} {w:World}
theorem depsJW_spec {x:PI} {i:Nat} {ws:List Nat}:∀{l:List (Nat×PI)} {r:List (Nat×Nat)},depsJW x i ws l=some r→∀y∈l,y.1≠i∧(y.1∈ws∨(wild y.2.op=false∧apartI y.2 x=true∧(apartC (clsO y.2.op) (clsO x.op)=true∨(y.1,i)∈r)))
 |[],r,h,y,hy=>by simp at hy
 |(j,z)::l,r,h,y,hy=>by
  simp only[depsJW]at h
  split at h
  ·cases h
  ·rename_i r0 h0
   split at h
   ·cases h
   ·rename_i hji
    have hji:j≠i:=by simpa using hji
    have rest:=depsJW_spec h0
    have up:∀(r':List (Nat×Nat)),(∀q∈r0,q∈r')→∀y∈l,y.1≠i∧(y.1∈ws∨(wild y.2.op=false∧apartI y.2 x=true∧(apartC (clsO y.2.op) (clsO x.op)=true∨(y.1,i)∈r'))):=fun r' hs y hy=>by
     obtain⟨h1,h2⟩:=rest y hy
     refine⟨h1,h2.imp id fun h3=>⟨h3.1,h3.2.1,h3.2.2.imp id (hs _)⟩⟩
    split at h
    ·rename_i hc;cases h
     rcases List.mem_cons.1 hy with rfl|hy
     ·exact⟨hji,.inl (by simpa using hc)⟩
     ·exact up _ (fun _ h=>h) y hy
    ·split at h
     ·cases h
     ·rename_i hw
      have hw:wild z.op=false:=by simpa using hw
      split at h
      ·cases h
      ·rename_i ha
       have ha:apartI z x=true:=by simpa using ha
       split at h
       ·rename_i hc;cases h
        rcases List.mem_cons.1 hy with rfl|hy
        ·exact⟨hji,.inr ⟨hw,ha,.inl hc⟩⟩
        ·exact up _ (fun _ h=>h) y hy
       ·cases h
        rcases List.mem_cons.1 hy with rfl|hy
        ·exact⟨hji,.inr ⟨hw,ha,.inr (List.mem_cons_self ..)⟩⟩
        ·exact up _ (fun _ h=>List.mem_cons_of_mem _ h) y hy
def RelW (tab:List (List Nat)) (dep:List (Nat×Nat)) (y x:Nat×PI):Prop:=y.1≠x.1∧(y.1∈getW tab x.1∨(wild y.2.op=false∧apartI y.2 x.2=true∧(apartC (clsO y.2.op) (clsO x.2.op)=true∨(y.1,x.1)∈dep)))
theorem RelW.mono {tab dep dep'} (h:∀q∈dep,q∈dep') {y x} (hr:RelW tab dep y x):RelW tab dep' y x:=⟨hr.1,hr.2.imp id fun h3=>⟨h3.1,h3.2.1,h3.2.2.imp id (h _)⟩⟩
theorem depsW_spec {ops:List Oper} {tab:List (List Nat)}:∀{l acc:List (Nat×PI)} {dep:List (Nat×Nat)},depsW ops tab acc l=some dep→
  l.Pairwise (RelW tab dep)∧(∀y∈acc,∀x∈l,RelW tab dep y x)∧l.Pairwise (fun x y=>y.1∉predsAt ops x.1)∧(∀x∈l,x.1∉predsAt ops x.1)∧∀x∈l,∀p∈predsAt ops x.1,p < x.1
 |[],acc,dep,h=>⟨List.Pairwise.nil,fun y _ x hx=>by simp at hx,List.Pairwise.nil,fun x hx=>by simp at hx,fun x hx=>by simp at hx⟩
 |(i,x)::l,acc,dep,h=>by
  simp only[depsW]at h
  split at h
  ·rename_i hp
   split at h
   ·rename_i d1 d2 h1 h2;cases h
    obtain⟨k1,k2,k3,k4,k5⟩:=depsW_spec h2
    have s1:∀q∈d1,q∈d1++d2:=fun q hq=>List.mem_append_left _ hq
    have s2:∀q∈d2,q∈d1++d2:=fun q hq=>List.mem_append_right _ hq
    have hx:∀y∈acc,RelW tab (d1++d2) y (i,x):=fun y hy=>RelW.mono s1 (depsJW_spec h1 y hy)
    have hpm:∀p∈predsAt ops i,∃y∈acc,y.1=p:=fun p hpp=>by
     have:=List.all_eq_true.1 hp p hpp
     rw[Bool.and_eq_true]at this
     obtain⟨y,hy,e⟩:=List.any_eq_true.1 this.2
     exact⟨y,hy,by simpa using e⟩
    have hlt:∀p∈predsAt ops i,p < i:=fun p hpp=>by
     have:=List.all_eq_true.1 hp p hpp
     rw[Bool.and_eq_true]at this
     exact of_decide_eq_true this.1
    refine⟨List.pairwise_cons.2 ⟨fun y hy=>RelW.mono s2 (k2 (i,x) (List.mem_cons_self ..) y hy),k1.imp fun h=>RelW.mono s2 h⟩,fun y hy z hz=> ?_,List.pairwise_cons.2 ⟨fun y hy hpy=> ?_,k3⟩,fun z hz=> ?_,fun z hz=> ?_⟩
    ·rcases List.mem_cons.1 hz with rfl|hz
     ·exact hx y hy
     ·exact RelW.mono s2 (k2 y (List.mem_cons_of_mem _ hy) z hz)
    ·obtain⟨z,hz,e⟩:=hpm _ hpy
     exact (k2 z (List.mem_cons_of_mem _ hz) y hy).1 e
    ·rcases List.mem_cons.1 hz with rfl|hz
     ·intro hpz
      obtain⟨y,hy,e⟩:=hpm _ hpz
      exact (hx y hy).1 e
     ·exact k4 z hz
    ·rcases List.mem_cons.1 hz with rfl|hz
     ·exact hlt
     ·exact k5 z hz
   ·cases h
  ·cases h
theorem mem_ordW {tab:List (List Nat)}:∀{ws:List Nat} {l:List (Nat×PI)} {x:Nat×PI},x∈ordW tab ws l→x∈l
 |[],l,x,h=>h
 |w::ws,l,x,h=>by
  simp only[ordW,List.mem_append]at h
  rcases h with h|h|h
  ·exact (List.mem_filter.1 h).1
  ·exact (List.mem_filter.1 h).1
  ·exact (List.mem_filter.1 (mem_ordW h)).1
theorem mem_enum:∀{is:List PI} {n:Nat} {x:Nat×PI},x∈enum n is→n≤x.1∧is[x.1-n]? =some x.2
 |[],n,x,h=>by simp[enum]at h
 |y::is,n,x,h=>by
  simp only[enum]at h
  rcases List.mem_cons.1 h with rfl|h
  ·exact⟨Nat.le_refl _,by simp⟩
  ·obtain⟨h1,h2⟩:=mem_enum h
   exact⟨by omega,by rw[show x.1-n=(x.1-(n+1))+1 by omega];simpa using h2⟩
theorem regW_sound {es:List Nat} (hC:C.Sound E) (hdet:C.Det) (hP:c.P=E.P) (htab:c.tab=E.tab) {id:Nat} {ops:Array Oper} {is:List PI} {l:List (Nat×PI)} {dep:List (Nat×Nat)} {K:St→Prop} {QQ:Exit→Act→World→Prop}
  (hm:c.P.follows .mixedOrders=true) (hp:prepIs c.P c.K c.N es true ops.toList ops.toList=some is) (hd:prepW ops.toList is=some (l,dep)) (h:InvW c m σ a w)
  (hW:startD (cntA ops.toList) (WopsW E C l [] dep K) σ) (hQ:∀σ' m' a' w',InvW c m' σ' a' w'→K σ'→QQ .normal a' w'):(Code.region id ops true).wp c.P QQ a w:=by
 unfold prepW at hd
 simp only at hd
 split at hd
 ·rename_i dep' hdp
  split at hd
  ·rename_i hall
   simp only[Option.some.injEq,Prod.mk.injEq]at hd
   obtain⟨hl,rfl⟩:=hd
   rw[hl]at hdp hall
   obtain⟨hcov,hlen⟩:=hall
   obtain⟨k1,k2,k3,k4,k5⟩:=depsW_spec hdp
   obtain⟨hil,hget⟩:=prepIs_get hp
   have hmem:∀x∈l,is[x.1]? =some x.2:=fun x hx=>by
    rw[←hl]at hx
    simpa using (mem_enum (mem_ordW hx)).2
   have hat:∀i,predsAt ops.toList i=predsO ops i:=fun i=>by
    unfold predsAt predsO;rw[Array.getElem?_toList];cases ops[i]? <;>rfl
   have hop:∀x∈l,∃o,ops[x.1]? =some o∧ops.toList[x.1]? =some o:=fun x hx=>by
    have hlt:=(List.getElem?_eq_some_iff.1 (hmem x hx)).1
    have:x.1 < ops.toList.length:=by omega
    exact⟨ops.toList[x.1],by rw[←Array.getElem?_toList];exact List.getElem?_eq_getElem this,List.getElem?_eq_getElem this⟩
   have cover:∀j,j < ops.size→j∈l.map (·.1):=fun j hj=>by
    unfold allIn at hcov
    have:=List.all_eq_true.1 hcov j (by simpa using hj)
    obtain⟨y,hy,e⟩:=List.any_eq_true.1 this
    exact List.mem_map.2 ⟨y,hy,by simpa using e⟩
   have inl:∀i o,ops[i]? =some o→∀p∈predsOf o,p < i:=fun i o ho p hpp=>by
    have hlt:=(Array.getElem?_eq_some_iff.1 ho).1
    obtain⟨x,hx,e⟩:=List.mem_map.1 (cover i hlt)
    have:=k5 x hx p (by rw[e,hat];unfold predsO;rw[ho];exact hpp)
    omega
   have inl2:∀i o,ops[i]? =some o→∀p∈predsOf o,p < ops.size:=fun i o ho p hpp=>by
    have:=inl i o ho p hpp
    have:=(Array.getElem?_eq_some_iff.1 ho).1
    omega
   refine wp_region_any hm ?_
   refine any_soundW (T:=waitTab ops.toList []) (dep:=dep') hC hdet hP htab ?_ inl2 (fun σ m a w h hk=>hQ σ m a w h hk) ops.size [] l [] _ _ _ _ a _ (by simpa using hlen) ((h.clear.more (cntA ops.toList)).drew 1) (Eqv.refl _) hW (by simp) ?_ ?_ ?_ ?_
   ·intro i o ho x hx
    have:=waitTab_mem (acc:=[]) (i:=i) (o:=o) (l:=ops.toList) (by rw[Array.getElem?_toList];exact ho) (by simpa using inl i o ho) x (by simpa using hx)
    exact this
   ·intro j hj
    constructor
    ·intro _;simpa using cover j hj
    ·intro _;simp[Array.getD,hj]
   ·intro x hx
    simp only[List.map_nil,List.nil_append]at hx
    obtain⟨o,ho,ho2⟩:=hop x hx
    obtain⟨rr,hrr⟩:=hget x.1 o x.2 ho2 (hmem x hx)
    exact⟨o,rr,ho,hrr⟩
   ·refine⟨?_,?_,List.Pairwise.nil,fun r hr=>by simp at hr,k1.imp fun h=>h.2,fun r hr=>by simp at hr⟩
    ·simp only[List.map_nil,List.nil_append]
     rw[List.pairwise_map]
     have:=k1.and k3
     refine this.imp ?_
     rintro x y ⟨h1,h2⟩
     exact⟨h1.1,by rw[←hat];exact h2⟩
    ·intro x hx
     simp only[List.map_nil,List.nil_append]at hx
     obtain⟨y,hy,rfl⟩:=List.mem_map.1 hx
     rw[←hat];exact k4 y hy
   ·intro j hj
    exfalso
    by_cases h:j < ops.size<;>simp[Array.getD,h]at hj
  ·cases hd
 ·cases hd
end Go.Abs
namespace Go.Abs
open Go Go.RowKit
set_option linter.unusedVariables false
set_option linter.unusedSimpArgs false
section
variable {E:Env} {C:Spec} {c:Ctx} {m:Mem} {σ:St} {a:Act} {w:World}
def exm:Ex→Exit
 | .normal=> .normal
 | .exit id=> .exit id
 | .ret=> .ret
theorem W_sound {es:List Nat} (hC:C.Sound E) (hdet:C.Det) (hP:c.P=E.P) (htab:c.tab=E.tab):∀(code:Code) (ks:List (List Nat)) (pc:PC) (ks':List (List Nat)),prepC c.P c.K c.N es code ks=some (pc,ks')→
  ∀(σ:St) (m:Mem) (a:Act) (w:World) (Q:Ex→St→Prop) (QQ:Exit→Act→World→Prop),InvW c m σ a w→W E C pc Q σ→
   (∀e σ' m' a' w',InvW c m' σ' a' w'→Q e σ'→QQ (exm e) a' w')→code.wp c.P QQ a w
 | .skip,ks,pc,ks',hp,σ,m,a,w,Q,QQ,h,hW,hQ=>by
  simp only[prepC]at hp;cases hp;exact wp_skip (hQ _ _ _ _ _ h hW)
 | .ret,ks,pc,ks',hp,σ,m,a,w,Q,QQ,h,hW,hQ=>by
  simp only[prepC]at hp;cases hp;exact wp_ret (hQ _ _ _ _ _ h hW)
 | .exit id,ks,pc,ks',hp,σ,m,a,w,Q,QQ,h,hW,hQ=>by
  simp only[prepC]at hp;cases hp;exact wp_exit (hQ _ _ _ _ _ h hW)
 | .seq x y,ks,pc,ks',hp,σ,m,a,w,Q,QQ,h,hW,hQ=>by
  simp only[prepC]at hp
  cases h1:prepC c.P c.K c.N es x ks with
  |none=>simp[h1]at hp
  |some r1=>
   obtain⟨px,k1⟩:=r1
   simp only[h1]at hp
   cases h2:prepC c.P c.K c.N es y k1 with
   |none=>simp[h2]at hp
   |some r2=>
    obtain⟨py,k2⟩:=r2
    simp only[h2]at hp;cases hp
    refine wp_seq (W_sound hC hdet hP htab x ks px k1 h1 σ m a w _ _ h hW ?_)
    intro e σ' m' a' w' h' hq
    cases e with
    |normal=>exact W_sound hC hdet hP htab y k1 py _ h2 σ' m' a' w' _ _ h' hq hQ
    |exit id=>exact hQ _ _ _ _ _ h' hq
    |ret=>exact hQ _ _ _ _ _ h' hq
 | .cond cc x y,ks,pc,ks',hp,σ,m,a,w,Q,QQ,h,hW,hQ=>by
  simp only[prepC]at hp
  cases h0:aoOf c.K cc with
  |none=>simp[h0]at hp
  |some ac=>
  cases h1:prepC c.P c.K c.N es x ks with
  |none=>simp[h0,h1]at hp
  |some r1=>
   obtain⟨px,k1⟩:=r1
   simp only[h0,h1]at hp
   cases h2:prepC c.P c.K c.N es y k1 with
   |none=>simp[h2]at hp
   |some r2=>
    obtain⟨py,k2⟩:=r2
    simp only[h2]at hp;cases hp
    have hW:condO (asB (σ.ev ac)) (W E C px Q σ) (W E C py Q σ):=hW
    cases hb:asB (σ.ev ac)with
    |none=>rw[hb]at hW;exact hW.elim
    |some b=>
     have hB:=h.rdB h0 hb
     rw[hb]at hW
     cases b with
     |true=>exact wp_cond_true hB (W_sound hC hdet hP htab x ks px k1 h1 σ m a w _ _ h hW hQ)
     |false=>exact wp_cond_false hB (W_sound hC hdet hP htab y k1 py _ h2 σ m a w _ _ h hW hQ)
 | .block id x,ks,pc,ks',hp,σ,m,a,w,Q,QQ,h,hW,hQ=>by
  simp only[prepC]at hp
  cases h1:prepC c.P c.K c.N es x ks with
  |none=>simp[h1]at hp
  |some r1=>
   obtain⟨px,k1⟩:=r1
   simp only[h1]at hp;cases hp
   refine wp_block (W_sound hC hdet hP htab x ks px _ h1 σ m a w _ _ h hW ?_)
   intro e σ' m' a' w' h' hq
   cases e with
   |normal=>exact hQ _ _ _ _ _ h' hq
   |exit id'=>
    simp only[blkK]at hq
    simp only[exm,Exit.inBlock]
    split at hq
    ·rename_i e;rw[if_pos (beq_iff_eq.1 e)];exact hQ _ _ _ _ _ h' hq
    ·rename_i e;rw[if_neg (fun e'=>e (beq_iff_eq.2 e'))];exact hQ _ _ _ _ _ h' hq
   |ret=>exact hQ _ _ _ _ _ h' hq
 | .loop x,ks,pc,ks',hp,σ,m,a,w,Q,QQ,h,hW,hQ=>by
  cases ks with
  |nil=>simp[prepC]at hp
  |cons k ks=>
   simp only[prepC]at hp
   cases h1:prepC c.P c.K c.N es x ks with
   |none=>simp[h1]at hp
   |some r1=>
    obtain⟨px,k1⟩:=r1
    simp only[h1]at hp;cases hp
    obtain⟨n,hn⟩:loopK (W E C px) k Q σ:=hW
    refine wp_loop_rounds n ?_
    have key:∀n σ m a w,InvW c m σ a w→WL (W E C px) k Q n σ→Code.rounds c.P x QQ n a w:=by
     intro n
     induction n with
     |zero=>intro σ m a w h hW;exact hW.elim
     |succ n ih=>
      intro σ m a w h hW
      rw[rounds_succ]
      refine W_sound hC hdet hP htab x ks px _ h1 σ m a w _ _ h hW ?_
      intro e σ' m' a' w' h' hq
      cases e with
      |normal=>exact ih _ m' a' w' (h'.keep k) hq
      |exit id=>exact hQ _ _ _ _ _ h' hq
      |ret=>exact hQ _ _ _ _ _ h' hq
    exact key n _ m a w (h.keep k) hn
 | .region id ops draw,ks,pc,ks',hp,σ,m,a,w,Q,QQ,h,hW,hQ=>by
  simp only[prepC]at hp
  cases h1:prepIs c.P c.K c.N es draw ops.toList ops.toList with
  |none=>simp[h1]at hp
  |some is=>
   simp only[h1]at hp
   cases draw with
   |true=>
    rw[if_pos rfl]at hp
    split at hp
    ·cases h2:depsOf ops.toList is with
     |none=>simp[h2]at hp
     |some dep=>
      simp only[h2]at hp
      split at hp
      ·rename_i hm;cases hp
       exact regD_sound hC hdet hP htab hm h1 h2 h hW (fun σ' m' a' w' h' hq=>hQ .normal σ' m' a' w' h' hq)
      ·cases hp
    ·cases h2:prepW ops.toList is with
     |none=>simp[h2]at hp
     |some r=>
      obtain⟨l,dep⟩:=r
      simp only[h2]at hp
      split at hp
      ·rename_i hm;cases hp
       exact regW_sound hC hdet hP htab hm h1 h2 h hW (fun σ' m' a' w' h' hq=>hQ .normal σ' m' a' w' h' hq)
      ·cases hp
   |false=>
    cases hp
    refine wp_region ?_
    have:=Wops_sound hC hP htab (QQ:=QQ) (KK:=Q .normal) (fun σ' m' a' w' h' hq=>hQ .normal σ' m' a' w' h' hq) ops.toList 0 is _ m a w (by simp) h1 h.clear hW
    rw[List.range_eq_range']
    simpa using this
 | .scope _,_,_,_,hp,_,_,_,_,_,_,_,_,_| .goto _,_,_,_,hp,_,_,_,_,_,_,_,_,_| .label _,_,_,_,hp,_,_,_,_,_,_,_,_,_=>by simp[prepC]at hp
end
end Go.Abs
