/- Addresses in arrays, stores, copies and cuts: what they change, and what that depends on. -/
import Derived.Test.YtjbglbhcbenhpaaDoorPlain4
import Derived.ChangeArms
import Derived.OpenShut
import Derived.WalkKit
import Derived.ProofKit
import Derived.ChangeOld
import Derived.Handed
import Derived.Carry
import Derived.WideShapes
import Derived.Laws.BitsLemmas
namespace Go.Abs
open Go Go.RowKit
set_option linter.unusedVariables false
set_option linter.unusedSimpArgs false
variable {tab : List (Nat × V)} {t : AD} {σ σ' : St} {p : Prop}
theorem oIdA_loc {n : Nat} {j : Int} {d : D} {a : Option V} (he : oIdA n j d σ t a = some (p, σ')) : σ' = σ.put t d ∧ ∃ y, a = some y ∧ ∀ (σ2 : St) z, y.same z = true → oIdA n j d σ2 t (some z) = some (p, σ2.put t d) := by
  unfold oIdA at he
  split at he
  · split at he
    · rename_i hc; cases he
      refine ⟨rfl, _, rfl, fun σ2 z hz => ?_⟩
      cases z <;> try (simp [V.same] at hz; done)
      simp only [V.same, Bool.and_eq_true, beq_iff_eq] at hz
      simp only [oIdA]; rw [if_pos (by rw [← hz.2]; exact hc)]
    · cases he
  · cases he
theorem oIdT_loc {n : Nat} {j : Int} {a : Option V} (he : oIdT n j σ t a = some (p, σ')) : ∃ e, σ' = σ.put t e ∧ ∀ (σ2 : St), oIdT n j σ2 t a = some (p, σ2.put t e) := by
  unfold oIdT at *
  split at he
  · split at he
    · rename_i hc; cases he
      exact ⟨_, rfl, fun σ2 => if_pos hc⟩
    · cases he
  · cases he
theorem iadrA_local {n : Nat} {x i : AO} (he : evalOp tab (.iadrA n x i) t σ = some (p, σ')) (hp : p) : ∃ δ : Dl, σ' = δ.app σ ∧ Local tab (.iadrA n x i) t σ δ := by
  have hi : ∀ σ2, Agree (rdO (.iadrA n x i)) (foot σ (.iadrA n x i)) σ σ2 → σ2.ev i = σ.ev i := fun σ2 h => h.ev l2
  cases hj : asI (σ.ev i) with
  | none =>
    have he : oIadrA tab n σ t (σ.ev x) (asI (σ.ev i)) = some (p, σ') := he
    rw [hj] at he; unfold oIadrA at he; split at he <;> first | (rename_i e1; cases e1; done) | cases he
  | some j =>
    refine shape_local (x := x) (F := fun d σ => oIadrA tab n σ t d (asI (σ.ev i))) (fun _ => rfl) (fun σ2 h => h.ev l1) ?_ (fun _ => by simp only [oIadrA]) he hp
    intro d p σ' hx he hp
    have hFt : foot σ (.iadrA n x i) = footS (σ.ev x) := rfl
    rw [hx] at hFt
    simp only [hj] at he
    unfold oIadrA at he
    split at he
    · rename_i k q j' e e2; cases e; cases e2
      obtain ⟨h1, y, h3, h4⟩ := oIdA_loc he
      refine ⟨_, h1, fun σ2 h => ?_⟩
      obtain ⟨b, h5, h6⟩ := box_shape h (k := k) (q := q) (by rw [hFt]; rfl) h3
      exact ⟨p, by simp only [hi σ2 h, hj, oIadrA]; rw [h5]; exact h4 σ2 b h6, hp⟩
    · rename_i id q j' e e2; cases e; cases e2
      obtain ⟨h1, y, h3, h4⟩ := oIdA_loc he
      refine ⟨_, h1, fun σ2 h => ?_⟩
      obtain ⟨b, h5, h6⟩ := obj_shape h (id := id) (q := q) h3
      exact ⟨p, by simp only [hi σ2 h, hj, oIadrA]; rw [h5]; exact h4 σ2 b h6, hp⟩
    · rename_i g j' e e2; cases e; cases e2
      obtain ⟨e, h1, h4⟩ := oIdT_loc he
      exact ⟨e, h1, fun σ2 h => ⟨p, by simp only [hi σ2 h, hj, oIadrA]; exact h4 σ2, hp⟩⟩
    · rename_i y j' e e2; cases e; cases e2
      obtain ⟨e, h1, h4⟩ := oIdT_loc he
      exact ⟨e, h1, fun σ2 h => ⟨p, by simp only [hi σ2 h, hj, oIadrA]; exact h4 σ2, hp⟩⟩
    · cases he
theorem oIdG_loc {n sz : Nat} {j : Int} {d : D} {a : Option V} (he : oIdG n sz j d σ t a = some (p, σ')) (hp : p) : σ' = σ.put t d ∧ ∃ y, a = some y ∧ ∀ (σ2 : St) z, y.same z = true → ∃ p2, oIdG n sz j d σ2 t (some z) = some (p2, σ2.put t d) ∧ p2 := by
  unfold oIdG at he
  split at he
  · rename_i l
    split at he
    · rename_i hc; cases he
      refine ⟨rfl, _, rfl, fun σ2 z hz => ?_⟩
      cases z <;> try (simp [V.same] at hz; done)
      rename_i m
      simp only [V.same] at hz
      refine ⟨(0 ≤ j ∧ j < (n : Int)) ∧ ∀ x ∈ m, V.size x = sz, by simp only [oIdG]; rw [if_pos (by rw [← sameL_len hz]; exact hc)], hp.1, (sameL_sizes (V.sameL_symm hz)).2 sz hp.2⟩
    · cases he
  · cases he
theorem iadrS_local {sz : Nat} {x i : AO} (he : evalOp tab (.iadrS sz x i) t σ = some (p, σ')) (hp : p) : ∃ δ : Dl, σ' = δ.app σ ∧ Local tab (.iadrS sz x i) t σ δ := by
  have hi : ∀ σ2, Agree (rdO (.iadrS sz x i)) (foot σ (.iadrS sz x i)) σ σ2 → σ2.ev i = σ.ev i := fun σ2 h => h.ev l2
  refine shape_local (x := x) (F := fun d σ => oIadrS sz σ t (asV d) (asI (σ.ev i))) (fun _ => rfl) (fun σ2 h => h.ev l1) ?_ (fun _ => by simp only [asV, oIadrS]) he hp
  intro d p σ' hx he hp
  cases hj : asI (σ.ev i) with
  | none => simp only [hj] at he; unfold oIadrS at he; split at he <;> first | (rename_i e1; cases e1; done) | cases he
  | some j =>
    simp only [hj] at he
    unfold oIadrS at he
    split at he
    · rename_i k xs j' e e2; cases e2
      split at he
      · rename_i hc; cases he
        exact ⟨_, rfl, fun σ2 h => ⟨_, by simp only [hi σ2 h, hj, e, oIadrS]; rw [if_pos hc], hp⟩⟩
      · cases he
    · rename_i sz' l j' e e2; cases e2
      split at he
      · rename_i hc; cases he
        exact ⟨_, rfl, fun σ2 h => ⟨_, by simp only [hi σ2 h, hj, e, oIadrS]; rw [if_pos hc], hp⟩⟩
      · cases he
    · rename_i id sz' off n cc j' e e2; cases e2
      split at he
      · rename_i hc
        cases hG : look σ.G id with
        | none => rw [hG] at he; simp [oIdR] at he
        | some r =>
          rw [hG] at he
          cases r <;> simp only [oIdR] at he <;> try (cases he; done)
          rename_i l
          cases he
          refine ⟨_, rfl, fun σ2 h => ?_⟩
          obtain ⟨b, h5, h6⟩ := h.gs id _ hG
          cases b <;> try (simp [V.same] at h6; done)
          rename_i l2
          simp only [V.same] at h6
          refine ⟨(0 ≤ j ∧ j < (n : Int)) ∧ off + j.toNat < l2.length ∧ ∀ x ∈ l2, V.size x = sz, ?_, hp.1, by rw [← sameL_len h6]; exact hp.2.1, (sameL_sizes (V.sameL_symm h6)).2 sz hp.2.2⟩
          simp only [hi σ2 h, hj, e, oIadrS]; rw [if_pos hc, h5]; rfl
      · cases he
    · cases he
theorem iadrG_local {n sz : Nat} {x i : AO} (he : evalOp tab (.iadrG n sz x i) t σ = some (p, σ')) (hp : p) : ∃ δ : Dl, σ' = δ.app σ ∧ Local tab (.iadrG n sz x i) t σ δ := by
  have hi : ∀ σ2, Agree (rdO (.iadrG n sz x i)) (foot σ (.iadrG n sz x i)) σ σ2 → σ2.ev i = σ.ev i := fun σ2 h => h.ev l2
  cases hj : asI (σ.ev i) with
  | none =>
    have he : oIadrG tab n sz σ t (σ.ev x) (asI (σ.ev i)) = some (p, σ') := he
    rw [hj] at he; unfold oIadrG at he; split at he <;> first | (rename_i e1; cases e1; done) | cases he
  | some j =>
    refine shape_local (x := x) (F := fun d σ => oIadrG tab n sz σ t d (asI (σ.ev i))) (fun _ => rfl) (fun σ2 h => h.ev l1) ?_ (fun _ => by simp only [oIadrG]) he hp
    intro d p σ' hx he hp
    have hFt : foot σ (.iadrG n sz x i) = footS (σ.ev x) := rfl
    rw [hx] at hFt
    simp only [hj] at he
    unfold oIadrG at he
    split at he
    · rename_i k q j' e e2; cases e; cases e2
      obtain ⟨h1, y, h3, h4⟩ := oIdG_loc he hp
      refine ⟨_, h1, fun σ2 h => ?_⟩
      obtain ⟨b, h5, h6⟩ := box_shape h (k := k) (q := q) (by rw [hFt]; rfl) h3
      simp only [hi σ2 h, hj, oIadrG]; rw [h5]; exact h4 σ2 b h6
    · rename_i id q j' e e2; cases e; cases e2
      obtain ⟨h1, y, h3, h4⟩ := oIdG_loc he hp
      refine ⟨_, h1, fun σ2 h => ?_⟩
      obtain ⟨b, h5, h6⟩ := obj_shape h (id := id) (q := q) h3
      simp only [hi σ2 h, hj, oIadrG]; rw [h5]; exact h4 σ2 b h6
    · cases he
/-- A write into a box that is read before. -/
theorem Local.box {o : PO} {k : Nat} {b : Bx} {e : AD × D} (hF : (foot σ o).w = some k) (hs : ∀ r, σ.L[k]? = some r → r.x.same b.x = true) (ht : e.1 = t ∨ e.1 = .no)
    (hgo : ∀ σ2, Agree (rdO o) (foot σ o) σ σ2 → ∃ p2, evalOp tab o t σ2 = some (p2, ({ σ2 with L := σ2.L.set k b } : St).put e.1 e.2) ∧ p2) : Local tab o t σ ⟨(.no, .un), e, some (k, b), none⟩ where
  dst := ht
  feed := fun s hs => by simp [adN] at hs
  mem := fun k b h => by cases h; exact .inl hF
  shp := fun k b r h _ hr => by cases h; exact hs r hr
  obj := fun h => by simp at h
  gsh := fun id x h => by cases h
  go := hgo
theorem Local.obj' {o : PO} {id : Nat} {x : V} (hF : (foot σ o).gw = true) (hs : ∃ r, look σ.G id = some r ∧ r.same x = true)
    (hgo : ∀ σ2, Agree (rdO o) (foot σ o) σ σ2 → ∃ p2, evalOp tab o t σ2 = some (p2, { σ2 with G := Go.Abs.upd σ2.G id x }) ∧ p2) : Local tab o t σ ⟨(.no, .un), (.no, .un), none, some (id, x)⟩ where
  dst := .inr rfl
  feed := fun s hs => by simp [adN] at hs
  mem := fun k b h => by cases h
  shp := fun k b r h _ hr => by cases h
  obj := fun h => hF
  gsh := fun id x h => by cases h; exact hs
  go := hgo
end Go.Abs
namespace Go.Abs
open Go Go.RowKit
set_option linter.unusedVariables false
set_option linter.unusedSimpArgs false
variable {tab : List (Nat × V)} {t : AD} {σ σ' : St} {p : Prop}
theorem store_local {n : Nat} {a x : AO} (he : evalOp tab (.store n a x) t σ = some (p, σ')) (hp : p) : ∃ δ : Dl, σ' = δ.app σ ∧ Local tab (.store n a x) t σ δ := by
  have ha : ∀ σ2, Agree (rdO (.store n a x)) (foot σ (.store n a x)) σ σ2 → σ2.ev a = σ.ev a := fun σ2 h => h.ev l1
  have hx : ∀ σ2, Agree (rdO (.store n a x)) (foot σ (.store n a x)) σ σ2 → σ2.ev x = σ.ev x := fun σ2 h => h.ev l2
  have hF : foot σ (.store n a x) = footW (σ.ev a) := rfl
  have he : oStore n σ (σ.ev a) (asV (σ.ev x)) = some (p, σ') := he
  have hgoal : ∀ σ2, evalOp tab (.store n a x) t σ2 = oStore n σ2 (σ2.ev a) (asV (σ2.ev x)) := fun _ => rfl
  have hobj : ∀ {id : Nat} {q : List Nat} {y : V}, (foot σ (.store n a x)).gw = true → (∀ σ2, Agree (rdO (.store n a x)) (foot σ (.store n a x)) σ σ2 → evalOp tab (.store n a x) t σ2 = oStoH n id q σ2 y (look σ2.G id)) →
      oStoH n id q σ y (look σ.G id) = some (p, σ') → ∃ δ : Dl, σ' = δ.app σ ∧ Local tab (.store n a x) t σ δ := by
    intro id q y hgw hev h
    unfold oStoH at h
    split at h
    · rename_i r hr
      unfold oStoG at h
      split at h
      · rename_i z hz
        split at h
        · rename_i hc; cases h
          refine ⟨⟨(.no, .un), (.no, .un), none, some (id, z)⟩, rfl, Local.obj' hgw ⟨r, hr, V.same_symm (V.upd_same hz)⟩ fun σ2 h2 => ⟨True, ?_, trivial⟩⟩
          rw [hev σ2 h2, h2.g (.inr hgw), hr]; simp only [oStoH, oStoG, hz]; rw [if_pos hc, h2.g (.inr hgw)]
        · cases h
      · cases h
    · cases h
  unfold oStore at he
  split at he
  · rename_i k q y h1 h2
    unfold oStoB at he
    split at he
    · rename_i r hr
      split at he
      · cases he
      · rename_i hfz
        unfold oStoL at he
        split at he
        · rename_i z hz
          split at he
          · rename_i hc; cases he
            have hw : (foot σ (.store n a x)).w = some k := by rw [hF, h1]; rfl
            refine ⟨⟨(.no, .un), (.no, .un), some (k, ⟨false, z⟩), none⟩, rfl, Local.box hw (fun r' hr' => ?_) (.inr rfl) fun σ2 h => ⟨True, ?_, trivial⟩⟩
            · rw [hr] at hr'; cases hr'; exact V.same_symm (V.upd_same hz)
            · rw [hgoal, ha σ2 h, hx σ2 h, h1, h2]; simp only [oStore]
              rw [h.eq k (.inr (.inl hw)), hr]; simp only [oStoB, hfz, oStoL, hz]
              rw [if_neg Bool.false_ne_true, if_pos hc]; rfl
          · cases he
        · cases he
    · cases he
  · rename_i id q y h1 h2
    exact hobj (by rw [hF, h1]; rfl) (fun σ2 h => by rw [hgoal, ha σ2 h, hx σ2 h, h1, h2]; rfl) he
  · rename_i id y h1 h2
    exact hobj (q := []) (by rw [hF, h1]; rfl) (fun σ2 h => by rw [hgoal, ha σ2 h, hx σ2 h, h1, h2]; rfl) he
  · cases he
theorem copy_local {x y : AO} (he : evalOp tab (.copy x y) t σ = some (p, σ')) (hp : p) : ∃ δ : Dl, σ' = δ.app σ ∧ Local tab (.copy x y) t σ δ := by
  have hx : ∀ σ2, Agree (rdO (.copy x y)) (foot σ (.copy x y)) σ σ2 → σ2.ev x = σ.ev x := fun σ2 h => h.ev l1
  have hy : ∀ σ2, Agree (rdO (.copy x y)) (foot σ (.copy x y)) σ σ2 → σ2.ev y = σ.ev y := fun σ2 h => h.ev l2
  have hF : foot σ (.copy x y) = footW (σ.ev x) := rfl
  have hgoal : ∀ σ2, evalOp tab (.copy x y) t σ2 = oCopy σ2 t (σ2.ev x) (asV (σ2.ev y)) := fun _ => rfl
  rw [hgoal] at he
  unfold oCopy at he
  split at he
  · rename_i k q nn kk ys h1 h2
    unfold oCpy1 at he
    split at he
    · rename_i r hr
      split at he
      · cases he
      · rename_i hfz
        unfold oCpy2 at he
        split at he
        · rename_i kk' n xs hsub
          split at he
          · rename_i hk
            unfold oCpy3 at he
            split at he
            · rename_i z hz; cases he
              have hw : (foot σ (.copy x y)).w = some k := by rw [hF, h1]; rfl
              refine ⟨⟨(.no, .un), (t, .v (.int .i64 ((min ys.length n : Nat) : Int))), some (k, ⟨false, z⟩), none⟩, rfl, Local.box hw (fun r' hr' => ?_) (.inl rfl) fun σ2 h => ⟨True, ?_, trivial⟩⟩
              · rw [hr] at hr'; cases hr'; exact V.same_symm (V.upd_same hz)
              · rw [hgoal, hx σ2 h, hy σ2 h, h1, h2]; simp only [oCopy]
                rw [h.eq k (.inr (.inl hw)), hr]; simp only [oCpy1, hfz, oCpy2, hsub, oCpy3, hz]
                rw [if_neg Bool.false_ne_true, if_pos hk]
            · cases he
          · cases he
        · cases he
    · cases he
  · rename_i k q nn h1 h2; cases he
    exact ⟨.slot t _, rfl, .slot fun σ2 h => ⟨True, by rw [hgoal, hx σ2 h, hy σ2 h, h1, h2]; rfl, trivial⟩⟩
  · cases he
theorem slcS_local {sz : Nat} {x : AO} {lo hi mx : Option AO} (he : evalOp tab (.slcS sz x lo hi mx) t σ = some (p, σ')) (hp : p) : ∃ δ : Dl, σ' = δ.app σ ∧ Local tab (.slcS sz x lo hi mx) t σ δ := by
  have hgoal : ∀ σ2, evalOp tab (.slcS sz x lo hi mx) t σ2 = oSlcS sz lo hi mx σ2 t (asV (σ2.ev x)) := fun _ => rfl
  have hx : ∀ σ2, Agree (rdO (.slcS sz x lo hi mx)) (foot σ (.slcS sz x lo hi mx)) σ σ2 → σ2.ev x = σ.ev x := fun σ2 h => h.ev fun t ht => l1 t (l1 t (l1 t ht))
  have hl : ∀ σ2 d, Agree (rdO (.slcS sz x lo hi mx)) (foot σ (.slcS sz x lo hi mx)) σ σ2 → σ2.opt lo d = σ.opt lo d := fun σ2 d h => opt_agree h (fun t ht => l1 t (l1 t (l2 t ht))) d
  have hh : ∀ σ2 d, Agree (rdO (.slcS sz x lo hi mx)) (foot σ (.slcS sz x lo hi mx)) σ σ2 → σ2.opt hi d = σ.opt hi d := fun σ2 d h => opt_agree h (fun t ht => l1 t (l2 t ht)) d
  have hm : ∀ σ2, Agree (rdO (.slcS sz x lo hi mx)) (foot σ (.slcS sz x lo hi mx)) σ σ2 → σ2.opt2 mx = σ.opt2 mx := fun σ2 h => opt2_agree h (fun t ht => l2 t ht)
  rw [hgoal] at he
  unfold oSlcS at he
  split at he
  · rename_i id sz' off n cc hy
    split at he
    · rename_i hc
      cases hlo : σ.opt lo 0 with
      | none => rw [hlo] at he; cases he
      | some l => cases hhi : σ.opt hi (n : Int) with
        | none => rw [hlo, hhi] at he; cases he
        | some r =>
          rw [hlo, hhi] at he; simp only [oSlcR] at he; cases he
          refine ⟨_, rfl, .slot fun σ2 h => ⟨_, ?_, hp⟩⟩
          rw [hgoal, hx σ2 h, hy]; simp only [oSlcS]
          rw [if_pos hc, hl σ2 _ h, hh σ2 _ h, hlo, hhi]; rfl
    · cases he
  · rename_i y hne hy
    unfold oSlcS2 at he
    split at he
    · rename_i n hn
      split at he
      · cases he
      · rename_i hc
        obtain ⟨d, h1, h2⟩ := oSlcS3_loc _ _ _ _ _ _ _ _ _ _ _ he
        refine ⟨.slot t d, h1, .slot fun σ2 h => ⟨p, ?_, hp⟩⟩
        rw [hgoal, hx σ2 h, hy]
        have e1 : ∀ σ3 : St, oSlcS sz lo hi mx σ3 t (some y) = oSlcS2 sz lo hi mx y σ3 t y.lenI := fun σ3 => by cases y <;> first | rfl | exact (hne _ _ _ _ _ rfl).elim
        rw [e1, hn]; simp only [oSlcS2]
        rw [if_neg hc, hl σ2 _ h, hh σ2 _ h, hm σ2 h]; exact h2 σ2
    · cases he
  · cases he
theorem slcT_local {x : AO} {lo hi : Option AO} (he : evalOp tab (.slcT x lo hi) t σ = some (p, σ')) (hp : p) : ∃ δ : Dl, σ' = δ.app σ ∧ Local tab (.slcT x lo hi) t σ δ := by
  have hgoal : ∀ σ2, evalOp tab (.slcT x lo hi) t σ2 = oSlcT lo hi σ2 t (asV (σ2.ev x)) := fun _ => rfl
  have hx : ∀ σ2, Agree (rdO (.slcT x lo hi)) (foot σ (.slcT x lo hi)) σ σ2 → σ2.ev x = σ.ev x := fun σ2 h => h.ev fun t ht => l1 t (l1 t ht)
  have hl : ∀ σ2 d, Agree (rdO (.slcT x lo hi)) (foot σ (.slcT x lo hi)) σ σ2 → σ2.opt lo d = σ.opt lo d := fun σ2 d h => opt_agree h (fun t ht => l1 t (l2 t ht)) d
  have hh : ∀ σ2 d, Agree (rdO (.slcT x lo hi)) (foot σ (.slcT x lo hi)) σ σ2 → σ2.opt hi d = σ.opt hi d := fun σ2 d h => opt_agree h (fun t ht => l2 t ht) d
  rw [hgoal] at he
  unfold oSlcT at he
  split at he
  · rename_i y hy
    obtain ⟨d, h1, h2⟩ := oSlcT2_loc y t (_, _) _ _ _ he
    refine ⟨.slot t d, h1, .slot fun σ2 h => ⟨p, ?_, hp⟩⟩
    rw [hgoal, hx σ2 h, hy]; simp only [oSlcT]
    rw [hl σ2 _ h, hh σ2 _ h]; exact h2 σ2
  · cases he
theorem slcA_local {n : Nat} {vw : Bool} {x : AO} {lo hi mx : Option AO} (he : evalOp tab (.slcA n vw x lo hi mx) t σ = some (p, σ')) (hp : p) : ∃ δ : Dl, σ' = δ.app σ ∧ Local tab (.slcA n vw x lo hi mx) t σ δ := by
  have hgoal : ∀ σ2, evalOp tab (.slcA n vw x lo hi mx) t σ2 = oSlcA n vw lo hi mx σ2 t (σ2.ev x) := fun _ => rfl
  have hx : ∀ σ2, Agree (rdO (.slcA n vw x lo hi mx)) (foot σ (.slcA n vw x lo hi mx)) σ σ2 → σ2.ev x = σ.ev x := fun σ2 h => h.ev fun t ht => l1 t (l1 t (l1 t ht))
  have hl : ∀ σ2 d, Agree (rdO (.slcA n vw x lo hi mx)) (foot σ (.slcA n vw x lo hi mx)) σ σ2 → σ2.opt lo d = σ.opt lo d := fun σ2 d h => opt_agree h (fun t ht => l1 t (l1 t (l2 t ht))) d
  have hh : ∀ σ2 d, Agree (rdO (.slcA n vw x lo hi mx)) (foot σ (.slcA n vw x lo hi mx)) σ σ2 → σ2.opt hi d = σ.opt hi d := fun σ2 d h => opt_agree h (fun t ht => l1 t (l2 t ht)) d
  have hF : foot σ (.slcA n vw x lo hi mx) = if vw = true then footS (σ.ev x) else footW (σ.ev x) := rfl
  rw [hgoal] at he
  unfold oSlcA at he
  split at he
  · rename_i k q h1
    split at he
    · rename_i hmx
      unfold oSlcX at he
      split at he
      · rename_i r hr
        unfold oSlcB at he
        split at he
        · rename_i kk n' xs hsub
          split at he
          · cases he
          · rename_i hne
            split at he
            · rename_i hvw
              split at he
              · rename_i hc; cases he
                refine ⟨.slot t (.vw k q n'), rfl, .slot fun σ2 h => ⟨True, ?_, trivial⟩⟩
                obtain ⟨r', h3, h4⟩ := h.sh k r (by rw [hF, if_pos hvw, h1]; rfl) hr
                obtain ⟨ys, h5⟩ := V.same_sub_arr h4 hsub
                rw [hgoal, hx σ2 h, h1]; simp only [oSlcA]
                rw [if_pos hmx, h3]; simp only [oSlcX, h5, oSlcB]
                rw [if_neg hne, if_pos hvw, if_pos hc]
              · cases he
            · rename_i hvw
              have hw : (foot σ (.slcA n vw x lo hi mx)).w = some k := by rw [hF, if_neg hvw, h1]; rfl
              unfold oSlcF at he
              split at he
              · rename_i l hh' e1 e2; cases he
                refine ⟨⟨(.no, .un), (t, .v (.sli kk ((xs.take hh'.toNat).drop l.toNat))), some (k, ⟨true, r.x⟩), none⟩, rfl, Local.box hw (fun r' hr' => ?_) (.inl rfl) fun σ2 h => ⟨_, ?_, hp⟩⟩
                · rw [hr] at hr'; cases hr'; exact V.same_refl _
                · rw [hgoal, hx σ2 h, h1]; simp only [oSlcA]
                  rw [if_pos hmx, h.eq k (.inr (.inl hw)), hr]; simp only [oSlcX, hsub, oSlcB]
                  rw [if_neg hne, if_neg hvw, hl σ2 _ h, hh σ2 _ h, e1, e2]; rfl
              · cases he
        · cases he
      · cases he
    · cases he
  · cases he
end Go.Abs
namespace Go.Abs
open Go Go.RowKit
set_option linter.unusedVariables false
set_option linter.unusedSimpArgs false
variable {tab : List (Nat × V)} {t : AD} {σ σ' : St} {p : Prop}
/-- Not an operation that lengthens the row of variables. -/
def noNew : PO → Bool
  | .alloc _ => false
  | .box _ => false
  | .appI .. => false
  | .clr .. => false
  | .atLd .. => false
  | .atSt .. => false
  | .atAdd .. => false
  | _ => true
theorem op_local {o : PO} (hn : noNew o = true) (he : evalOp tab o t σ = some (p, σ')) (hp : p) : ∃ δ : Dl, σ' = δ.app σ ∧ Local tab o t σ δ := by
  cases o with
  | mv feeds x => exact mv_local he hp
  | pick c a b => cases he
  | alloc z => cases hn
  | box x => cases hn
  | allocAt r z => exact fill_local (f := fun _ => some z) (fun _ => rfl) (fun _ _ => rfl) rfl he hp
  | boxAt r x => exact fill_local (f := fun σ => asV (σ.ev x)) (fun _ => rfl) (fun σ2 h => by show asV _ = asV _; rw [h.ev fun t ht => ht]) rfl he hp
  | build z ps => exact Local.of_fun (g := fun y σ => oBuild z σ t y) (f := fun σ => σ.parts ps) (fun _ => rfl) (fun σ2 h => parts_agree h fun t ht => ht) (oBuild_loc z t) he hp
  | buildS k sz z len ps => exact Local.of_fun (g := fun y σ => oBuildS k sz z len σ t y) (f := fun σ => σ.parts ps) (fun _ => rfl) (fun σ2 h => parts_agree h fun t ht => ht) (oBuildS_loc k sz z len t) he hp
  | buildR k sz z len ps => exact Local.of_fun (g := fun y σ => oBuildR k sz z len σ t y) (f := fun σ => σ.parts ps) (fun _ => rfl) (fun σ2 h => parts_agree h fun t ht => ht) (oBuildR_loc k sz z len t) he hp
  | cvt x => exact cvt_local he hp
  | capN x => exact Local.of_putVO (f := fun σ => capO (asV (σ.ev x))) (fun _ => rfl) (fun σ2 h => by show capO _ = capO _; rw [h.ev fun t ht => ht]) he hp
  | appZ k sz bytes z x n => exact appZ_local he hp
  | appG k sz bytes z x n => exact Local.of_fun (g := fun y σ => oAppG k sz bytes z σ t y.1 y.2) (f := fun σ => (asV (σ.ev x), asI (σ.ev n))) (fun _ => rfl) (fun σ2 h => by show (_, _) = (_, _); rw [h.ev l1, h.ev l2]) (oAppG_loc k sz bytes z t) he hp
  | cutG sz x h => exact cutG_local he hp
  | load n ag x => exact load_local he hp
  | store n a x => exact store_local he hp
  | nilc x => exact Local.of_fun (g := fun y σ => oNilc σ t y) (f := fun σ => σ.ev x) (fun _ => rfl) (fun σ2 h => h.ev fun t ht => ht) (oNilc_loc t) he hp
  | bin op x y => exact Local.of_putPV (f := fun σ => binV op (asV (σ.ev x)) (asV (σ.ev y))) (fun _ => rfl) (fun σ2 h => by show binV _ _ _ = binV _ _ _; rw [h.ev l1, h.ev l2]) he hp
  | binB op x y => exact Local.of_putPV (f := fun σ => binVB op (asV (σ.ev x)) (asV (σ.ev y))) (fun _ => rfl) (fun σ2 h => by show binVB _ _ _ = binVB _ _ _; rw [h.ev l1, h.ev l2]) he hp
  | binP op x y => exact Local.of_putPV (f := fun σ => binVP op (asV (σ.ev x)) (asV (σ.ev y))) (fun _ => rfl) (fun σ2 h => by show binVP _ _ _ = binVP _ _ _; rw [h.ev l1, h.ev l2]) he hp
  | eqa neg e x y => exact Local.of_fun (g := fun y σ => oEqa neg e σ t y.1 y.2) (f := fun σ => (asV (σ.ev x), asV (σ.ev y))) (fun _ => rfl) (fun σ2 h => by show (_, _) = (_, _); rw [h.ev l1, h.ev l2]) (oEqa_loc neg e t) he hp
  | un op x => exact Local.of_putVO (f := fun σ => unV op (asV (σ.ev x))) (fun _ => rfl) (fun σ2 h => by show unV _ _ = unV _ _; rw [h.ev fun t ht => ht]) he hp
  | conv k x => exact Local.of_fun (g := fun y σ => oConv k σ t y) (f := fun σ => asV (σ.ev x)) (fun _ => rfl) (fun σ2 h => by show asV _ = asV _; rw [h.ev fun t ht => ht]) (oConv_loc k t) he hp
  | fadr f off x => exact fadr_local he hp
  | fld f off n ag x => exact Local.of_fun (g := fun y σ => oField f off n ag σ t y) (f := fun σ => asV (σ.ev x)) (fun _ => rfl) (fun σ2 h => by show asV _ = asV _; rw [h.ev fun t ht => ht]) (oField_loc f off n ag t) he hp
  | iadrA n x i => exact iadrA_local he hp
  | iadrG n sz x i => exact iadrG_local he hp
  | iadrS sz x i => exact iadrS_local he hp
  | idxS x i => exact Local.of_fun (g := fun y σ => oIdxS σ t y.1 y.2) (f := fun σ => (asV (σ.ev x), asI (σ.ev i))) (fun _ => rfl) (fun σ2 h => by show (_, _) = (_, _); rw [h.ev l1, h.ev l2]) (oIdxS_loc t) he hp
  | idxA n x i => exact Local.of_fun (g := fun y σ => oIdxA n σ t y.1 y.2) (f := fun σ => (asV (σ.ev x), asI (σ.ev i))) (fun _ => rfl) (fun σ2 h => by show (_, _) = (_, _); rw [h.ev l1, h.ev l2]) (oIdxA_loc n t) he hp
  | slcA n vw x lo hi mx => exact slcA_local he hp
  | slcS sz x lo hi mx => exact slcS_local he hp
  | slcT x lo hi => exact slcT_local he hp
  | ext x i => exact Local.of_fun (g := fun y σ => oExt i σ t y) (f := fun σ => σ.ev x) (fun _ => rfl) (fun σ2 h => h.ev fun t ht => ht) (oExt_loc i t) he hp
  | len x => exact Local.of_putVO (f := fun σ => lenO (asV (σ.ev x))) (fun _ => rfl) (fun σ2 h => by show lenO _ = lenO _; rw [h.ev fun t ht => ht]) he hp
  | lenT x => exact Local.of_putVO (f := fun σ => lenT (asV (σ.ev x))) (fun _ => rfl) (fun σ2 h => by show lenT _ = lenT _; rw [h.ev fun t ht => ht]) he hp
  | app k sz bytes x y => exact app_local he hp
  | copy x y => exact copy_local he hp
  | mkS k sz bytes z l c => exact Local.of_fun (g := fun y σ => oMkS k sz bytes z σ t y.1 y.2) (f := fun σ => (asI (σ.ev l), asI (σ.ev c))) (fun _ => rfl) (fun σ2 h => by show (_, _) = (_, _); rw [h.ev l1, h.ev l2]) (oMkS_loc k sz bytes z t) he hp
  | s2a n x => exact Local.of_fun (g := fun y σ => oS2a n σ t y) (f := fun σ => asV (σ.ev x)) (fun _ => rfl) (fun σ2 h => by show asV _ = asV _; rw [h.ev fun t ht => ht]) (oS2a_loc n t) he hp
  | mm mx xs => exact Local.of_fun (g := fun y σ => oMM mx σ t y) (f := fun σ => σ.evs xs) (fun _ => rfl) (fun σ2 h => evs_agree h fun t ht => ht) (oMM_loc mx t) he hp
  | call g xs => cases he
  | nileq neg x => cases he
  | new z => cases he
  | newB x => cases he
  | mkFn f xs => exact Local.of_fun (g := fun y σ => oMkFn f σ t y) (f := fun σ => σ.evs xs) (fun _ => rfl) (fun σ2 h => evs_agree h fun t ht => ht) (oMkFn_loc f t) he hp
  | callV x xs => cases he
  | appR sz bytes z x y => cases he
  | appI sz x y => cases hn
  | clr sz z x => cases hn
  | slcZ x => exact Local.of_fun (g := fun y σ => oSlcZ σ t y) (f := fun σ => lenIO (asV (σ.ev x))) (fun _ => rfl) (fun σ2 h => by show lenIO _ = lenIO _; rw [h.ev fun t ht => ht]) (oSlcZ_loc t) he hp
  | s2b x => exact Local.of_fun (g := fun y σ => oS2b σ t y) (f := fun σ => asV (σ.ev x)) (fun _ => rfl) (fun σ2 h => by show asV _ = asV _; rw [h.ev fun t ht => ht]) (oS2b_loc t) he hp
  | fad0 x => exact Local.of_fun (g := fun y σ => oFad0 σ t y) (f := fun σ => asV (σ.ev x)) (fun _ => rfl) (fun σ2 h => by show asV _ = asV _; rw [h.ev fun t ht => ht]) (oFad0_loc t) he hp
  | atLd x => cases hn
  | atSt a x => cases hn
  | atAdd a x => cases hn
  | bad => cases he
end Go.Abs
namespace Go.Abs
open Go Go.RowKit
set_option linter.unusedVariables false
set_option linter.unusedSimpArgs false
structure Eqv (σ σ2 : St) : Prop where
  vs : σ2.vs = σ.vs
  ts : ∀ t, look σ2.ts t = look σ.ts t
  L : σ2.L = σ.L
  G : σ2.G = σ.G
theorem Eqv.refl (σ : St) : Eqv σ σ := ⟨rfl, fun _ => rfl, rfl, rfl⟩
theorem Eqv.symm {σ σ2 : St} (h : Eqv σ σ2) : Eqv σ2 σ := ⟨h.vs.symm, fun t => (h.ts t).symm, h.L.symm, h.G.symm⟩
theorem Eqv.trans {σ σ2 σ3 : St} (h : Eqv σ σ2) (h' : Eqv σ2 σ3) : Eqv σ σ3 := ⟨h'.vs.trans h.vs, fun t => (h'.ts t).trans (h.ts t), h'.L.trans h.L, h'.G.trans h.G⟩
theorem Eqv.ev {σ σ2 : St} (h : Eqv σ σ2) (x : AO) : σ2.ev x = σ.ev x := by
  cases x with
  | v t => simp only [St.ev, h.vs]
  | t t => exact h.ts t
  | c d => rfl
theorem Eqv.put {σ σ2 : St} (h : Eqv σ σ2) (t : AD) (d : D) : Eqv (σ.put t d) (σ2.put t d) := by
  cases t with
  | v t => exact ⟨by simp only [St.put, St.putV, h.vs], h.ts, h.L, h.G⟩
  | t t => exact ⟨h.vs, fun s => by simp only [St.put, St.putT, look_cons, h.ts], h.L, h.G⟩
  | no => exact h
theorem Eqv.agree {σ σ2 : St} (h : Eqv σ σ2) (rd : List Nat) (F : Foot) : Agree rd F σ σ2 :=
  ⟨fun t _ => ⟨by rw [h.vs], h.ts t⟩, by rw [h.L], fun k _ => by rw [h.L], fun k r _ hr => ⟨r, by rw [h.L]; exact hr, V.same_refl _⟩, fun _ => h.G, fun id r hr => ⟨r, by rw [h.G]; exact hr, V.same_refl _⟩⟩
theorem Agree.trans {rd F} {σ σ2 σ3 : St} (h : Agree rd F σ σ2) (h' : Agree rd F σ2 σ3) : Agree rd F σ σ3 where
  v := fun t ht => ⟨(h'.v t ht).1.trans (h.v t ht).1, (h'.v t ht).2.trans (h.v t ht).2⟩
  len := h'.len.trans h.len
  eq := fun k hk => (h'.eq k hk).trans (h.eq k hk)
  sh := fun k r hk hr => by
    obtain ⟨r1, h1, h2⟩ := h.sh k r hk hr
    obtain ⟨r2, h3, h4⟩ := h'.sh k r1 hk h1
    exact ⟨r2, h3, V.same_trans' h2 h4⟩
  g := fun hg => (h'.g hg).trans (h.g hg)
  gs := fun id r hr => by
    obtain ⟨r1, h1, h2⟩ := h.gs id r hr
    obtain ⟨r2, h3, h4⟩ := h'.gs id r1 h1
    exact ⟨r2, h3, V.same_trans' h2 h4⟩
theorem getv_set_self : ∀ {l : List (Option D)} {t : Nat} {d : D}, getv l t = some d → l.set t (some d) = l
  | [], t, d, h => rfl
  | o :: l, 0, d, h => by simp only [getv] at h; subst h; rfl
  | o :: l, t + 1, d, h => by simp only [getv] at h; simp only [List.set_cons_succ, getv_set_self h]
theorem getv_set_ne : ∀ {l : List (Option D)} {t s : Nat} {x : Option D}, s ≠ t → getv (l.set t x) s = getv l s
  | [], t, s, x, h => rfl
  | o :: l, 0, 0, x, h => absurd rfl h
  | o :: l, 0, s + 1, x, h => rfl
  | o :: l, t + 1, 0, x, h => rfl
  | o :: l, t + 1, s + 1, x, h => by simp only [List.set_cons_succ, getv]; exact getv_set_ne (fun e => h (by rw [e]))
theorem eqv_again {σ : St} {x : AO} {d : D} (h : σ.ev x = some d) : Eqv σ (σ.put x.ad d) := by
  cases x with
  | v t => exact ⟨getv_set_self h, fun _ => rfl, rfl, rfl⟩
  | t t =>
    refine ⟨rfl, fun s => ?_, rfl, rfl⟩
    simp only [AO.ad, St.put, St.putT, look_cons]
    by_cases e : s = t
    · subst e; rw [if_pos rfl]; exact h.symm
    · rw [if_neg e]
  | c d => exact Eqv.refl _
theorem put_read {σ : St} {t : AD} {d : D} {s : Nat} (h : s ∉ adN t) : getv (σ.put t d).vs s = getv σ.vs s ∧ look (σ.put t d).ts s = look σ.ts s := by
  cases t with
  | v t => exact ⟨getv_set_ne (fun e => h (by simp [adN, e])), rfl⟩
  | t t => exact ⟨rfl, by simp only [St.put, St.putT, look_cons]; rw [if_neg (fun e => h (by simp [adN, e]))]⟩
  | no => exact ⟨rfl, rfl⟩
theorem put_comm {σ : St} {t u : AD} {d e : D} (h : ∀ s ∈ adN t, s ∉ adN u) : Eqv ((σ.put t d).put u e) ((σ.put u e).put t d) := by
  cases t with
  | no => exact Eqv.refl _
  | v t =>
    cases u with
    | no => exact Eqv.refl _
    | t u => exact Eqv.refl _
    | v u =>
      have hne : t ≠ u := fun e => h t (by simp [adN]) (by simp [adN, e])
      exact ⟨by simp only [St.put, St.putV]; exact List.set_comm _ _ (fun e => hne e.symm), fun _ => rfl, rfl, rfl⟩
  | t t =>
    cases u with
    | no => exact Eqv.refl _
    | v u => exact Eqv.refl _
    | t u =>
      have hne : t ≠ u := fun e => h t (by simp [adN]) (by simp [adN, e])
      refine ⟨rfl, fun s => ?_, rfl, rfl⟩
      simp only [St.put, St.putT, look_cons]
      by_cases e1 : s = t
      · subst e1; rw [if_pos rfl, if_neg hne, if_pos rfl]
      · rw [if_neg e1]; by_cases e2 : s = u
        · rw [if_pos e2]; rw [if_pos e2]
        · rw [if_neg e2, if_neg e2, if_neg e1]
def Dl.mem (δ : Dl) (σ : St) : St := { σ with L := memL δ.L σ.L, G := memG δ.G σ.G }
theorem app_eq (δ : Dl) (σ : St) : δ.app σ = ((δ.mem σ).put δ.f.1 δ.f.2).put δ.d.1 δ.d.2 := rfl
theorem mem_put (δ : Dl) (σ : St) (t : AD) (d : D) : δ.mem (σ.put t d) = (δ.mem σ).put t d := by cases t <;> rfl
theorem put_L (σ : St) (t : AD) (d : D) : (σ.put t d).L = σ.L := by cases t <;> rfl
theorem put_G (σ : St) (t : AD) (d : D) : (σ.put t d).G = σ.G := by cases t <;> rfl
theorem app_L (δ : Dl) (σ : St) : (δ.app σ).L = memL δ.L σ.L := by rw [app_eq, put_L, put_L]; rfl
theorem app_G (δ : Dl) (σ : St) : (δ.app σ).G = memG δ.G σ.G := by rw [app_eq, put_G, put_G]; rfl
theorem Eqv.mem {σ σ2 : St} (h : Eqv σ σ2) (δ : Dl) : Eqv (δ.mem σ) (δ.mem σ2) := ⟨h.vs, h.ts, by simp only [Dl.mem, h.L], by simp only [Dl.mem, h.G]⟩
theorem Eqv.app {σ σ2 : St} (h : Eqv σ σ2) (δ : Dl) : Eqv (δ.app σ) (δ.app σ2) := ((h.mem δ).put _ _).put _ _
def Dl.wr (δ : Dl) : List Nat := adN δ.d.1 ++ adN δ.f.1
/-- Two changes that do not meet. -/
structure Meet (δ ε : Dl) : Prop where
  wr : ∀ s ∈ δ.wr, s ∉ ε.wr
  L : ∀ k b l c, δ.L = some (k, b) → ε.L = some (l, c) → k ≠ l
  G : δ.G = none ∨ ε.G = none
theorem app_comm {δ ε : Dl} (h : Meet δ ε) (σ : St) : Eqv (δ.app (ε.app σ)) (ε.app (δ.app σ)) := by
  have hm : δ.mem (ε.mem σ) = ε.mem (δ.mem σ) := by
    have hL : memL δ.L (memL ε.L σ.L) = memL ε.L (memL δ.L σ.L) := by
      cases h1 : δ.L with
      | none => rfl
      | some a =>
        cases h2 : ε.L with
        | none => rfl
        | some b => obtain ⟨k, x⟩ := a; obtain ⟨l, y⟩ := b; simp only [memL]; exact List.set_comm _ _ (fun e => h.L k x l y h1 h2 e.symm)
    have hG : memG δ.G (memG ε.G σ.G) = memG ε.G (memG δ.G σ.G) := by rcases h.G with h | h <;> rw [h] <;> rfl
    show St.mk _ _ _ _ = St.mk _ _ _ _
    rw [show memL δ.L (ε.mem σ).L = memL ε.L (δ.mem σ).L from hL, show memG δ.G (ε.mem σ).G = memG ε.G (δ.mem σ).G from hG]; rfl
  have w1 : ∀ s ∈ adN δ.d.1, s ∉ adN ε.d.1 := fun s h1 h2 => h.wr s (l1 s h1) (l1 s h2)
  have w2 : ∀ s ∈ adN δ.d.1, s ∉ adN ε.f.1 := fun s h1 h2 => h.wr s (l1 s h1) (l2 s h2)
  have w3 : ∀ s ∈ adN δ.f.1, s ∉ adN ε.d.1 := fun s h1 h2 => h.wr s (l2 s h1) (l1 s h2)
  have w4 : ∀ s ∈ adN δ.f.1, s ∉ adN ε.f.1 := fun s h1 h2 => h.wr s (l2 s h1) (l2 s h2)
  have c1 : ∀ {σ : St} {a b : D}, Eqv ((σ.put ε.f.1 a).put δ.f.1 b) ((σ.put δ.f.1 b).put ε.f.1 a) := (put_comm w4).symm
  have c2 : ∀ {σ : St} {a b : D}, Eqv ((σ.put ε.d.1 a).put δ.f.1 b) ((σ.put δ.f.1 b).put ε.d.1 a) := (put_comm w3).symm
  have c3 : ∀ {σ : St} {a b : D}, Eqv ((σ.put ε.f.1 a).put δ.d.1 b) ((σ.put δ.d.1 b).put ε.f.1 a) := (put_comm w2).symm
  have c4 : ∀ {σ : St} {a b : D}, Eqv ((σ.put ε.d.1 a).put δ.d.1 b) ((σ.put δ.d.1 b).put ε.d.1 a) := (put_comm w1).symm
  rw [app_eq δ, app_eq ε, mem_put, mem_put, app_eq ε (δ.app σ), app_eq δ σ, mem_put, mem_put, hm]
  refine (c2.put _ _).trans ?_
  refine ((c1.put _ _).put _ _).trans ?_
  refine c4.trans ?_
  exact c3.put _ _
/-- What a change leaves. -/
structure Leaves (rd : List Nat) (F : Foot) (σ : St) (ε : Dl) : Prop where
  wr : ∀ s ∈ ε.wr, s ∉ rd
  L : ∀ k b, ε.L = some (k, b) → F.r ≠ some k ∧ F.w ≠ some k ∧ F.n ≠ some k ∧ (F.s = some k → ∀ r, σ.L[k]? = some r → r.x.same b.x = true)
  G : ε.G.isSome = true → F.gr = false ∧ F.gw = false
  gsh : ∀ id x, ε.G = some (id, x) → ∃ r, look σ.G id = some r ∧ r.same x = true
theorem app_read {ε : Dl} {σ : St} {s : Nat} (h : s ∉ ε.wr) : getv (ε.app σ).vs s = getv σ.vs s ∧ look (ε.app σ).ts s = look σ.ts s := by
  rw [app_eq]
  have h1 : s ∉ adN ε.d.1 := fun e => h (l1 s e)
  have h2 : s ∉ adN ε.f.1 := fun e => h (l2 s e)
  exact ⟨(put_read h1).1.trans (put_read h2).1, (put_read h1).2.trans (put_read h2).2⟩
theorem memL_len (o : Option (Nat × Bx)) (l : List Bx) : (memL o l).length = l.length := by cases o <;> simp [memL]
theorem memL_ne {o : Option (Nat × Bx)} {l : List Bx} {k : Nat} (h : ∀ b, o ≠ some (k, b)) : (memL o l)[k]? = l[k]? := by
  cases o with
  | none => rfl
  | some a =>
    obtain ⟨j, b⟩ := a
    have : j ≠ k := fun e => h b (by rw [e])
    simp only [memL]; exact List.getElem?_set_ne this
theorem Leaves.agree {rd F σ ε} (h : Leaves rd F σ ε) : Agree rd F σ (ε.app σ) ∧ Agree rd F (ε.app σ) σ := by
  have hv : ∀ t ∈ rd, getv (ε.app σ).vs t = getv σ.vs t ∧ look (ε.app σ).ts t = look σ.ts t := fun t ht => app_read (fun hw => h.wr t hw ht)
  have hlen : (ε.app σ).L.length = σ.L.length := by rw [app_L, memL_len]
  have heq : ∀ k, F.r = some k ∨ F.w = some k ∨ F.n = some k → (ε.app σ).L[k]? = σ.L[k]? := by
    intro k hk; rw [app_L]
    refine memL_ne fun b hb => ?_
    obtain ⟨h1, h2, h3, _⟩ := h.L k b hb
    rcases hk with hk | hk | hk
    · exact h1 hk
    · exact h2 hk
    · exact h3 hk
  have hg : F.gr = true ∨ F.gw = true → (ε.app σ).G = σ.G := by
    intro hg; rw [app_G]
    cases hε : ε.G with
    | none => rfl
    | some a =>
      obtain ⟨h1, h2⟩ := h.G (by rw [hε]; rfl)
      rcases hg with hg | hg
      · rw [h1] at hg; cases hg
      · rw [h2] at hg; cases hg
  constructor
  · refine ⟨hv, hlen, heq, fun k r hk hr => ?_, hg, fun id r hr => ?_⟩
    · rw [app_L]
      cases hε : ε.L with
      | none => exact ⟨r, hr, V.same_refl _⟩
      | some a =>
        obtain ⟨j, b⟩ := a
        by_cases e : j = k
        · subst e
          obtain ⟨_, _, _, h4⟩ := h.L j b hε
          exact ⟨b, by simp only [memL]; rw [List.getElem?_set_self (List.getElem?_eq_some_iff.1 hr).1], h4 hk r hr⟩
        · exact ⟨r, by simp only [memL]; rw [List.getElem?_set_ne e]; exact hr, V.same_refl _⟩
    · rw [app_G]
      cases hε : ε.G with
      | none => exact ⟨r, hr, V.same_refl _⟩
      | some a =>
        obtain ⟨j, x⟩ := a
        simp only [memG, look_upd]
        by_cases e : id = j
        · subst e
          obtain ⟨r0, h1, h2⟩ := h.gsh id x hε
          rw [hr] at h1; cases h1
          exact ⟨x, by rw [if_pos rfl, hr]; rfl, h2⟩
        · exact ⟨r, by rw [if_neg e]; exact hr, V.same_refl _⟩
  · refine ⟨fun t ht => ⟨(hv t ht).1.symm, (hv t ht).2.symm⟩, hlen.symm, fun k hk => (heq k hk).symm, fun k r hk hr => ?_, fun hgg => (hg hgg).symm, fun id r hr => ?_⟩
    · rw [app_L] at hr
      cases hε : ε.L with
      | none => rw [hε] at hr; exact ⟨r, hr, V.same_refl _⟩
      | some a =>
        obtain ⟨j, b⟩ := a
        rw [hε] at hr; simp only [memL] at hr
        by_cases e : j = k
        · subst e
          have hlt : j < σ.L.length := by have := (List.getElem?_eq_some_iff.1 hr).1; simpa using this
          rw [List.getElem?_set_self hlt] at hr; cases hr
          obtain ⟨_, _, _, h4⟩ := h.L j r hε
          exact ⟨σ.L[j], List.getElem?_eq_getElem hlt, V.same_symm (h4 hk _ (List.getElem?_eq_getElem hlt))⟩
        · rw [List.getElem?_set_ne e] at hr; exact ⟨r, hr, V.same_refl _⟩
    · rw [app_G] at hr
      cases hε : ε.G with
      | none => rw [hε] at hr; exact ⟨r, hr, V.same_refl _⟩
      | some a =>
        obtain ⟨j, x⟩ := a
        rw [hε] at hr; simp only [memG, look_upd] at hr
        by_cases e : id = j
        · subst e
          obtain ⟨r0, h1, h2⟩ := h.gsh id x hε
          rw [if_pos rfl, h1] at hr; cases hr
          exact ⟨r0, h1, V.same_symm h2⟩
        · rw [if_neg e] at hr; exact ⟨r, hr, V.same_refl _⟩
end Go.Abs
namespace Go.Abs
open Go Go.RowKit
set_option linter.unusedVariables false
set_option linter.unusedSimpArgs false
/-- Every function hands back one thing. -/
def Spec.Det (C : Spec) : Prop := ∀ g vs G (Q : R → Prop), C g vs G (fun r G' => G' = G ∧ Q r) → ∃ r, Q r ∧ ∀ Q' : R → List (Nat × V) → Prop, Q' r G → C g vs G Q'
variable {E : Env} {C : Spec}
structure LocW (E : Env) (C : Spec) (o : PO) (t : AD) (σ : St) (δ : Dl) : Prop where
  dst : δ.d.1 = t ∨ δ.d.1 = .no
  feed : ∀ s ∈ adN δ.f.1, s ∈ fdO o
  mem : ∀ k b, δ.L = some (k, b) → (foot σ o).w = some k ∨ (foot σ o).n = some k
  shp : ∀ k b r, δ.L = some (k, b) → (foot σ o).n ≠ some k → σ.L[k]? = some r → r.x.same b.x = true
  obj : δ.G.isSome = true → (foot σ o).gw = true
  gsh : ∀ id x, δ.G = some (id, x) → ∃ r, look σ.G id = some r ∧ r.same x = true
  go : ∀ σ2, Agree (rdO o) (foot σ o) σ σ2 → WopD E C t o (fun τ => τ = δ.app σ2) σ2
theorem LocW.slot {o : PO} {t : AD} {σ : St} {d : D} (h : ∀ σ2, Agree (rdO o) (foot σ o) σ σ2 → WopD E C t o (fun τ => τ = σ2.put t d) σ2) : LocW E C o t σ (Dl.slot t d) where
  dst := .inl rfl
  feed := fun s hs => by simp [Dl.slot, adN] at hs
  mem := fun k b h => by cases h
  shp := fun k b r h => by cases h
  obj := fun h => by simp [Dl.slot] at h
  gsh := fun id x h => by cases h
  go := h
theorem wopD_local (hdet : C.Det) {o : PO} {t : AD} {K : St → Prop} {σ : St} (h : WopD E C t o K σ) : ∃ δ : Dl, LocW E C o t σ δ ∧ K (δ.app σ) := by
  have gen : noNew o = true → (∀ K σ, WopD E C t o K σ = ranO (evalOp E.tab o t σ) K) → ∃ δ : Dl, LocW E C o t σ δ ∧ K (δ.app σ) := by
    intro hn heq
    rw [heq] at h
    obtain ⟨p, σ', h1, h2, h3⟩ := ranO_spec h
    obtain ⟨δ, rfl, hl⟩ := op_local hn h1 h2
    refine ⟨δ, ⟨hl.dst, hl.feed, hl.mem, hl.shp, hl.obj, hl.gsh, fun σ2 ha => ?_⟩, h3⟩
    obtain ⟨p2, h4, h5⟩ := hl.go σ2 ha
    rw [heq, h4]; exact ⟨h5, rfl⟩
  cases o with
  | pick c a b =>
    have h : pickO (asB (σ.ev c)) (asV (σ.ev a)) (asV (σ.ev b)) t K σ := h
    have hev : ∀ σ2, Agree (rdO (.pick c a b)) (foot σ (.pick c a b)) σ σ2 → ∀ K, WopD E C t (.pick c a b) K σ2 = pickO (asB (σ.ev c)) (asV (σ.ev a)) (asV (σ.ev b)) t K σ2 := by
      intro σ2 ha K
      show pickO _ _ _ _ _ _ = _
      rw [ha.ev (x := c) (fun t ht => l1 t (l1 t ht)), ha.ev (x := a) (fun t ht => l1 t (l2 t ht)), ha.ev (x := b) (fun t ht => l2 t ht)]
    unfold pickO at h
    split at h
    · rename_i e1
      split at h
      · rename_i x e2
        exact ⟨.slot t (.v x), .slot fun σ2 ha => by rw [hev σ2 ha, e1, e2]; exact rfl, h⟩
      · exact h.elim
    · rename_i e1
      split at h
      · rename_i x e2
        exact ⟨.slot t (.v x), .slot fun σ2 ha => by rw [hev σ2 ha, e1, e2]; exact rfl, h⟩
      · exact h.elim
    · exact h.elim
  | call g xs =>
    have h : callDO C g (σ.evs xs) K σ t := h
    unfold callDO at h
    split at h
    · rename_i vs hvs
      obtain ⟨r, h2, h3⟩ := hdet _ _ _ (fun r => K (σ.put t r.D)) h
      refine ⟨.slot t r.D, .slot fun σ2 ha => ?_, h2⟩
      show callDO C g (σ2.evs xs) _ σ2 t
      rw [evs_agree ha fun t ht => ht, hvs]
      have hG : σ2.G = σ.G := ha.g (.inl rfl)
      show C g vs σ2.G _
      rw [hG]
      exact h3 _ ⟨rfl, rfl⟩
    · exact h.elim
  | nileq neg x => exact False.elim h
  | new z => exact False.elim h
  | callV x xs =>
    have h : callVD C (calleeOk E.P) K σ t (asV (σ.ev x)) (σ.evs xs) := h
    unfold callVD at h
    split at h
    · rename_i f caps vs hx hvs
      obtain ⟨hok, h⟩ := h
      obtain ⟨r, h2, h3⟩ := hdet _ _ _ (fun r => K (σ.put t r.D)) h
      refine ⟨.slot t r.D, .slot fun σ2 ha => ?_, h2⟩
      show callVD C (calleeOk E.P) _ σ2 t (asV (σ2.ev x)) (σ2.evs xs)
      rw [ha.ev (x := x) (fun t ht => l1 t ht), evs_agree ha fun t ht => l2 t ht, hvs, hx]
      have hG : σ2.G = σ.G := ha.g (.inl rfl)
      refine ⟨hok, ?_⟩
      show C f (vs ++ caps) σ2.G _
      rw [hG]
      exact h3 _ ⟨rfl, rfl⟩
    · exact h.elim
  | appR sz bytes z x y => exact False.elim h
  | appI sz x y => exact False.elim h
  | clr sz z x => exact False.elim h
  | atLd x => exact False.elim h
  | atSt a x => exact False.elim h
  | atAdd a x => exact False.elim h
  | newB x => exact False.elim h
  | alloc z => exact False.elim h
  | box x => exact False.elim h
  | bad => exact False.elim h
  | _ => exact gen rfl (fun _ _ => rfl)
def StepD (E : Env) (C : Spec) (i : PI) (K : Foot → St → Prop) (σ : St) : Prop := match i.guard with
  | none => WopD E C i.dst i.op (K (foot σ i.op)) σ
  | some (t, want) => guardO t want (σ.ev t) (WopD E C i.dst i.op (K (foot σ i.op))) (skipK i.dst (K noF)) σ
theorem WopsD_step {i : PI} {r : List PI} {fs : List Foot} {K : List Foot → St → Prop} {σ : St} : WopsD E C (i :: r) fs K σ = StepD E C i (fun f => WopsD E C r (fs ++ [f]) K) σ := by
  obtain ⟨d, o, g⟩ := i
  cases g with
  | none => rfl
  | some q => rfl
/-- What a step changes at a state, wherever else it is done. -/
structure LocI (E : Env) (C : Spec) (i : PI) (F : Foot) (σ : St) (δ : Dl) : Prop where
  wr : ∀ s ∈ δ.wr, s ∈ i.wr
  mem : ∀ k b, δ.L = some (k, b) → F.w = some k ∨ F.n = some k
  shp : ∀ k b r, δ.L = some (k, b) → F.n ≠ some k → σ.L[k]? = some r → r.x.same b.x = true
  obj : δ.G.isSome = true → F.gw = true
  gsh : ∀ id x, δ.G = some (id, x) → ∃ r, look σ.G id = some r ∧ r.same x = true
  go : ∀ σ2, Agree i.rd F σ σ2 → StepD E C i (fun _ τ => Eqv (δ.app σ2) τ) σ2
theorem LocI.agree {i : PI} {F : Foot} {σ σ2 : St} {δ : Dl} (h : LocI E C i F σ δ) (ha : Agree i.rd F σ σ2) : LocI E C i F σ2 δ where
  wr := h.wr
  mem := h.mem
  shp := fun k b r hk hn hr => by
    rcases h.mem k b hk with hw | hw
    · rw [ha.eq k (.inr (.inl hw))] at hr; exact h.shp k b r hk hn hr
    · exact absurd hw hn
  obj := h.obj
  gsh := fun id x hx => by
    have hg := h.obj (by rw [hx]; rfl)
    rw [ha.g (.inr hg)]; exact h.gsh id x hx
  go := fun σ3 h3 => h.go σ3 (ha.trans h3)
theorem foot_eqv {σ σ2 : St} (h : Eqv σ σ2) (o : PO) : foot σ2 o = foot σ o := by
  cases o <;> simp only [foot, h.ev, h.L]
theorem Eqv.agreeG {σ σ2 : St} {x : AO} {d : D} (h : σ.ev x = some d) (h2 : σ2.ev x = some d) {rd F} (ha : Agree rd F σ σ2) : Agree rd F (σ.put x.ad d) (σ2.put x.ad d) :=
  (((eqv_again h).symm.agree rd F).trans ha).trans ((eqv_again h2).agree rd F)
theorem Agree.sub {rd rd' : List Nat} {F : Foot} {σ σ2 : St} (h : Agree rd F σ σ2) (hs : ∀ t ∈ rd', t ∈ rd) : Agree rd' F σ σ2 := ⟨fun t ht => h.v t (hs t ht), h.len, h.eq, h.sh, h.g, h.gs⟩
theorem wopD_mono {o : PO} {t : AD} {K K' : St → Prop} {σ : St} (hdet : C.Det) (h : WopD E C t o K σ) (hK : ∀ τ, K τ → K' τ) : WopD E C t o K' σ := by
  obtain ⟨δ, h1, h2⟩ := wopD_local hdet h
  have h3 := h1.go σ (Agree.refl _ _ _)
  have gen : (∀ K, WopD E C t o K σ = ranO (evalOp E.tab o t σ) K) → WopD E C t o K' σ := by
    intro heq
    rw [heq] at h ⊢
    obtain ⟨p, σ', h1, h2, h3⟩ := ranO_spec h
    rw [h1]; exact ⟨h2, hK _ h3⟩
  cases o with
  | pick c a b =>
    have h : pickO (asB (σ.ev c)) (asV (σ.ev a)) (asV (σ.ev b)) t K σ := h
    show pickO (asB (σ.ev c)) (asV (σ.ev a)) (asV (σ.ev b)) t K' σ
    unfold pickO at *
    split at h
    · rename_i e1
      split at h
      · exact hK _ h
      · exact h.elim
    · rename_i e1
      split at h
      · exact hK _ h
      · exact h.elim
    · exact h.elim
  | call g xs =>
    have h : callDO C g (σ.evs xs) K σ t := h
    show callDO C g (σ.evs xs) K' σ t
    unfold callDO at *
    split at h
    · rename_i vs hvs
      obtain ⟨r, h2, h3⟩ := hdet _ _ _ (fun r => K (σ.put t r.D)) h
      exact h3 _ ⟨rfl, hK _ h2⟩
    · exact h.elim
  | nileq neg x => exact False.elim h
  | new z => exact False.elim h
  | callV x xs =>
    have h : callVD C (calleeOk E.P) K σ t (asV (σ.ev x)) (σ.evs xs) := h
    show callVD C (calleeOk E.P) K' σ t (asV (σ.ev x)) (σ.evs xs)
    unfold callVD at *
    split at h
    · rename_i f caps vs hx hvs
      obtain ⟨hok, h⟩ := h
      obtain ⟨r, h2, h3⟩ := hdet _ _ _ (fun r => K (σ.put t r.D)) h
      exact ⟨hok, h3 _ ⟨rfl, hK _ h2⟩⟩
    · exact h.elim
  | appR sz bytes z x y => exact False.elim h
  | appI sz x y => exact False.elim h
  | clr sz z x => exact False.elim h
  | atLd x => exact False.elim h
  | atSt a x => exact False.elim h
  | atAdd a x => exact False.elim h
  | newB x => exact False.elim h
  | alloc z => exact False.elim h
  | box x => exact False.elim h
  | bad => exact False.elim h
  | _ => exact gen (fun _ => rfl)
theorem LocW.wrs {o : PO} {t : AD} {σ : St} {δ : Dl} (h : LocW E C o t σ δ) {i : PI} (ho : i.op = o) (ht : i.dst = t) : ∀ s ∈ δ.wr, s ∈ i.wr := by
  intro s hs
  subst ho; subst ht
  unfold Dl.wr at hs; unfold PI.wr
  rcases List.mem_append.1 hs with h1 | h1
  · rcases h.dst with h2 | h2
    · rw [h2] at h1; exact l1 s h1
    · rw [h2] at h1; simp [adN] at h1
  · exact l2 s (h.feed s h1)
theorem skip_loc {i : PI} {t : AO} {want : Bool} {σ : St} {d : D} (hg : i.guard = some (t, want)) (hd : σ.ev t = some d) (hs : ∀ f h σ2, guardO t want (some d) f h σ2 = h σ2 ∨ guardO t want (some d) f h σ2 = h (σ2.put t.ad d)) :
    LocI E C i noF σ (Dl.slot i.dst .un) where
  wr := fun s h => by
    simp only [Dl.wr, Dl.slot, adN, List.append_nil] at h
    exact l1 s h
  mem := fun k b h => by cases h
  shp := fun k b r h => by cases h
  obj := fun h => by simp [Dl.slot] at h
  gsh := fun id x h => by cases h
  go := fun σ2 ha => by
    have he : σ2.ev t = σ.ev t := ha.ev (fun s hs => by unfold PI.rd; rw [hg]; exact l2 s hs)
    have hd2 : σ2.ev t = some d := he.trans hd
    unfold StepD; rw [hg]; simp only [hd2]
    rcases hs (WopD E C i.dst i.op fun τ => Eqv ((Dl.slot i.dst .un).app σ2) τ) (skipK i.dst fun τ => Eqv ((Dl.slot i.dst .un).app σ2) τ) σ2 with h | h
    · rw [h]; exact Eqv.refl _
    · rw [h]; exact ((eqv_again hd2).put i.dst .un)
theorem stepD_local (hdet : C.Det) {i : PI} {K : Foot → St → Prop} {σ : St} (h : StepD E C i K σ) : ∃ (F : Foot) (δ : Dl) (τ : St), (F = foot σ i.op ∨ F = noF) ∧ LocI E C i F σ δ ∧ Eqv (δ.app σ) τ ∧ K F τ := by
  cases hg : i.guard with
  | none =>
    unfold StepD at h; rw [hg] at h
    obtain ⟨δ, h1, h2⟩ := wopD_local hdet h
    refine ⟨_, δ, _, .inl rfl, ⟨h1.wrs rfl rfl, h1.mem, h1.shp, h1.obj, h1.gsh, fun σ2 ha => ?_⟩, Eqv.refl _, h2⟩
    unfold StepD; rw [hg]
    exact wopD_mono hdet (h1.go σ2 (ha.sub fun t ht => l1 t ht)) (fun τ e => by rw [e]; exact Eqv.refl _)
  | some q =>
    obtain ⟨t, want⟩ := q
    have hgo : ∀ (d : D), σ.ev t = some d → (∀ f h σ2, guardO t want (some d) f h σ2 = f (σ2.put t.ad d)) → ∃ (F : Foot) (δ : Dl) (τ : St), (F = foot σ i.op ∨ F = noF) ∧ LocI E C i F σ δ ∧ Eqv (δ.app σ) τ ∧ K F τ := by
      intro d hd hf
      unfold StepD at h; rw [hg] at h; simp only [hd] at h
      rw [hf] at h
      have hq := eqv_again hd
      obtain ⟨δ, h1, h2⟩ := wopD_local hdet h
      have hF : foot (σ.put t.ad d) i.op = foot σ i.op := foot_eqv hq i.op
      refine ⟨_, δ, _, .inl rfl, ⟨h1.wrs rfl rfl, ?_, ?_, ?_, ?_, fun σ2 ha => ?_⟩, hq.app δ, h2⟩
      · rw [← hF]; exact h1.mem
      · rw [← hF]; intro k b r e1 e2 e3; exact h1.shp k b r e1 e2 (by rw [hq.L]; exact e3)
      · rw [← hF]; exact h1.obj
      · intro id x hx
        obtain ⟨r, e1, e2⟩ := h1.gsh id x hx
        exact ⟨r, by rw [← hq.G]; exact e1, e2⟩
      · have he : σ2.ev t = σ.ev t := ha.ev (fun s hs => by unfold PI.rd; rw [hg]; exact l2 s hs)
        have hd2 : σ2.ev t = some d := he.trans hd
        unfold StepD; rw [hg]; simp only [hd2]; rw [hf]
        exact wopD_mono hdet (h1.go (σ2.put t.ad d) (by rw [hF]; exact Eqv.agreeG hd hd2 (ha.sub fun t ht => l1 t ht))) (fun τ e => by rw [e]; exact (eqv_again hd2).app δ)
    have hskip : ∀ (d : D), σ.ev t = some d → (∀ f h σ2, guardO t want (some d) f h σ2 = h σ2 ∨ guardO t want (some d) f h σ2 = h (σ2.put t.ad d)) → ∃ (F : Foot) (δ : Dl) (τ : St), (F = foot σ i.op ∨ F = noF) ∧ LocI E C i F σ δ ∧ Eqv (δ.app σ) τ ∧ K F τ := by
      intro d hd hs
      unfold StepD at h; rw [hg] at h; simp only [hd] at h
      rcases hs (WopD E C i.dst i.op (K (foot σ i.op))) (skipK i.dst (K noF)) σ with e | e
      · rw [e] at h
        exact ⟨_, _, _, .inr rfl, skip_loc hg hd hs, Eqv.refl _, h⟩
      · rw [e] at h
        exact ⟨_, _, _, .inr rfl, skip_loc hg hd hs, (eqv_again hd).put i.dst .un, h⟩
    cases hd : σ.ev t with
    | none => unfold StepD at h; rw [hg] at h; simp only [hd] at h; exact False.elim h
    | some d =>
      by_cases h1 : d = .v (.bool true)
      · subst h1
        cases want with
        | true => exact hgo _ hd fun _ _ _ => rfl
        | false => exact hskip _ hd fun _ _ _ => .inr rfl
      · by_cases h2 : d = .v (.bool false)
        · subst h2
          cases want with
          | true => exact hskip _ hd fun _ _ _ => .inr rfl
          | false => exact hgo _ hd fun _ _ _ => rfl
        · by_cases h3 : d = .un
          · subst h3; exact hskip _ hd fun _ _ _ => .inl rfl
          · unfold StepD at h; rw [hg] at h; simp only [hd] at h
            unfold guardO at h
            split at h
            · rename_i e; cases e; exact absurd rfl h1
            · rename_i e; cases e; exact absurd rfl h2
            · rename_i e; cases e; exact absurd rfl h3
            · exact False.elim h
end Go.Abs
namespace Go.Abs
open Go Go.RowKit
set_option linter.unusedVariables false
set_option linter.unusedSimpArgs false
variable {E : Env} {C : Spec}
/-- A step that is yet to be done. -/
structure It where
  n : Nat
  i : PI
  F : Foot
  δ : Dl
def Chain (E : Env) (C : Spec) : List It → St → St → Prop
  | [], σ, fin => Eqv σ fin
  | r :: l, σ, fin => LocI E C r.i r.F σ r.δ ∧ Chain E C l (r.δ.app σ) fin
theorem Chain.eqv : ∀ {l : List It} {σ σ2 fin : St}, Chain E C l σ fin → Eqv σ σ2 → Chain E C l σ2 fin
  | [], σ, σ2, fin, h, e => e.symm.trans h
  | r :: l, σ, σ2, fin, h, e => ⟨h.1.agree (e.agree _ _), Chain.eqv h.2 (e.app r.δ)⟩
/-- Two steps that do not meet. -/
def Apart (a b : It) : Prop := apartI a.i b.i = true ∧ apartF a.F b.F = true
theorem disj_spec {a b : List Nat} (h : disj a b = true) : ∀ s ∈ a, s ∉ b := by
  intro s hs hb
  simp only [disj, List.all_eq_true, Bool.not_eq_true'] at h
  have := h s hs
  simp [hb] at this
theorem neO_spec {a b : Option Nat} (h : neO a b = true) {k : Nat} (ha : a = some k) : b ≠ some k := by
  subst ha; intro hb; subst hb; simp [neO] at h
theorem apart_leaves {a b : It} (h : Apart a b) {σ : St} (ha : LocI E C a.i a.F σ a.δ) (hb : LocI E C b.i b.F σ b.δ) : Meet a.δ b.δ := by
  obtain ⟨h1, h2⟩ := h
  simp only [apartI, Bool.and_eq_true] at h1
  simp only [apartF, Bool.and_eq_true, Bool.not_eq_true'] at h2
  obtain ⟨⟨⟨⟨⟨⟨⟨⟨⟨⟨⟨n1, n2⟩, n3⟩, n4⟩, n5⟩, n6⟩, n7⟩, n8⟩, n9⟩, n10⟩, n11⟩, n12⟩ := h2
  refine ⟨fun s hs hs2 => disj_spec h1.1 s (ha.wr s hs) (l2 s (hb.wr s hs2)), fun k x l y e1 e2 e => ?_, ?_⟩
  · subst e
    rcases ha.mem k x e1 with m1 | m1 <;> rcases hb.mem k y e2 with m2 | m2
    · exact neO_spec n8 m1 m2
    · exact neO_spec n6 m2 m1
    · exact neO_spec n3 m1 m2
    · exact neO_spec n1 m1 m2
  · cases e1 : a.δ.G with
    | none => exact .inl rfl
    | some q =>
      cases e2 : b.δ.G with
      | none => exact .inr rfl
      | some q2 =>
        have g1 := ha.obj (by rw [e1]; rfl)
        have g2 := hb.obj (by rw [e2]; rfl)
        simp [g1, g2] at n11
theorem apart_a {a b : It} (h : Apart a b) {σ : St} (ha : LocI E C a.i a.F σ a.δ) : Leaves b.i.rd b.F σ a.δ := by
  obtain ⟨h1, h2⟩ := h
  simp only [apartI, Bool.and_eq_true] at h1
  simp only [apartF, Bool.and_eq_true, Bool.not_eq_true'] at h2
  obtain ⟨⟨⟨⟨⟨⟨⟨⟨⟨⟨⟨n1, n2⟩, n3⟩, n4⟩, n5⟩, n6⟩, n7⟩, n8⟩, n9⟩, n10⟩, n11⟩, n12⟩ := h2
  refine ⟨fun s hs hs2 => disj_spec h1.1 s (ha.wr s hs) (l1 s hs2), fun k x e1 => ?_, fun hg => ?_, ha.gsh⟩
  · rcases ha.mem k x e1 with m1 | m1
    · exact ⟨neO_spec n9 m1, neO_spec n8 m1, fun e => neO_spec n6 e m1, fun hs r hr => ha.shp k x r e1 (fun e => neO_spec n4 e hs) hr⟩
    · exact ⟨neO_spec n2 m1, neO_spec n3 m1, neO_spec n1 m1, fun e => absurd e (neO_spec n4 m1)⟩
  · have g1 := ha.obj hg
    cases e1 : b.F.gr <;> cases e2 : b.F.gw <;> simp [g1, e1, e2] at n11 ⊢
theorem apart_b {a b : It} (h : Apart a b) {σ : St} (hb : LocI E C b.i b.F σ b.δ) : Leaves a.i.rd a.F σ b.δ := by
  obtain ⟨h1, h2⟩ := h
  simp only [apartI, Bool.and_eq_true] at h1
  simp only [apartF, Bool.and_eq_true, Bool.not_eq_true'] at h2
  obtain ⟨⟨⟨⟨⟨⟨⟨⟨⟨⟨⟨n1, n2⟩, n3⟩, n4⟩, n5⟩, n6⟩, n7⟩, n8⟩, n9⟩, n10⟩, n11⟩, n12⟩ := h2
  refine ⟨fun s hs hs2 => disj_spec h1.2 s (hb.wr s hs) hs2, fun k x e1 => ?_, fun hg => ?_, hb.gsh⟩
  · rcases hb.mem k x e1 with m1 | m1
    · exact ⟨neO_spec n10 m1, fun e => neO_spec n8 e m1, fun e => neO_spec n3 e m1, fun hs r hr => hb.shp k x r e1 (fun e => neO_spec n7 e hs) hr⟩
    · exact ⟨neO_spec n5 m1, neO_spec n6 m1, fun e => neO_spec n1 e m1, fun e => absurd e (neO_spec n7 m1)⟩
  · have g1 := hb.obj hg
    cases e1 : a.F.gr <;> cases e2 : a.F.gw <;> simp [g1, e1, e2] at n11 n12 ⊢
theorem Chain.swap {a b : It} {l : List It} {σ fin : St} (h : Apart a b) (hc : Chain E C (a :: b :: l) σ fin) : Chain E C (b :: a :: l) σ fin := by
  obtain ⟨ha, hb, hl⟩ := hc
  have hb0 : LocI E C b.i b.F σ b.δ := hb.agree (apart_a h ha).agree.2
  exact ⟨hb0, ha.agree (apart_b h hb0).agree.1, hl.eqv (app_comm (apart_leaves h ha hb0) σ).symm⟩
theorem Chain.front {r : It} {B : List It} : ∀ {A : List It} {σ fin : St}, (∀ a ∈ A, Apart a r) → Chain E C (A ++ r :: B) σ fin → Chain E C (r :: (A ++ B)) σ fin
  | [], _, _, _, h => h
  | a :: A, σ, fin, hA, h => by
    have h2 : Chain E C (r :: (A ++ B)) (a.δ.app σ) fin := Chain.front (fun x hx => hA x (List.mem_cons_of_mem _ hx)) h.2
    exact Chain.swap (hA a (List.mem_cons_self ..)) ⟨h.1, h2⟩
/-- The chain of a text. -/
theorem chain_of (hdet : C.Det) : ∀ (is : List PI) (k : Nat) (fs : List Foot) (K : List Foot → St → Prop) (σ : St), WopsD E C is fs K σ →
    ∃ (R : List It) (fin : St), Chain E C R σ fin ∧ R.map (·.i) = is ∧ R.map (·.n) = List.range' k is.length ∧ (∀ r ∈ R, ∃ τ, r.F = foot τ r.i.op ∨ r.F = noF) ∧ K (fs ++ R.map (·.F)) fin
  | [], k, fs, K, σ, h => ⟨[], σ, Eqv.refl _, rfl, rfl, fun r hr => by simp at hr, by simpa [WopsD] using h⟩
  | i :: is, k, fs, K, σ, h => by
    rw [WopsD_step] at h
    obtain ⟨F, δ, τ, h1, h2, h3, h4⟩ := stepD_local hdet h
    obtain ⟨R, fin, h5, h6, h7, h8, h9⟩ := chain_of hdet is (k + 1) _ K τ h4
    refine ⟨⟨k, i, F, δ⟩ :: R, fin, ⟨h2, h5.eqv h3.symm⟩, by simp [h6], by simp [h7, List.range'_succ], fun r hr => ?_, by simpa using h9⟩
    rcases List.mem_cons.1 hr with rfl | hr
    · exact ⟨σ, h1⟩
    · exact h8 r hr
end Go.Abs
namespace Go.Abs
open Go Go.RowKit
set_option linter.unusedVariables false
set_option linter.unusedSimpArgs false
/-- A footprint that the operation's class speaks of. -/
structure Cov (q : Bool × Bool × Bool × Bool × Bool) (F : Foot) : Prop where
  r : F.r.isSome = true → q.1 = true
  w : F.w.isSome = true → q.2.1 = true
  s : F.s.isSome = true → q.2.2.1 = true
  n : F.n.isSome = true → q.2.2.2.1 = true
  gr : F.gr = true → q.1 = true ∨ q.2.2.2.2 = true
  gw : F.gw = true → q.2.1 = true
theorem cov_no (q) : Cov q noF := ⟨(by intro h; cases h), (by intro h; cases h), (by intro h; cases h), (by intro h; cases h), (by intro h; cases h), (by intro h; cases h)⟩
theorem cov_R {a b c d : Bool} (o : Option D) : Cov (true, a, b, c, d) (footR o) := by
  unfold footR
  split
  · exact ⟨fun _ => rfl, (by intro h; cases h), (by intro h; cases h), (by intro h; cases h), fun _ => .inl rfl, (by intro h; cases h)⟩
  · exact ⟨fun _ => rfl, (by intro h; cases h), (by intro h; cases h), (by intro h; cases h), fun _ => .inl rfl, (by intro h; cases h)⟩
  · exact ⟨fun _ => rfl, (by intro h; cases h), (by intro h; cases h), (by intro h; cases h), fun _ => .inl rfl, (by intro h; cases h)⟩
  · exact cov_no _
theorem cov_W {a b c d : Bool} (o : Option D) : Cov (a, true, b, c, d) (footW o) := by
  unfold footW
  split
  · exact ⟨(by intro h; cases h), fun _ => rfl, (by intro h; cases h), (by intro h; cases h), (by intro h; cases h), fun _ => rfl⟩
  · exact ⟨(by intro h; cases h), fun _ => rfl, (by intro h; cases h), (by intro h; cases h), (by intro h; cases h), fun _ => rfl⟩
  · exact ⟨(by intro h; cases h), fun _ => rfl, (by intro h; cases h), (by intro h; cases h), (by intro h; cases h), fun _ => rfl⟩
  · exact ⟨(by intro h; cases h), fun _ => rfl, (by intro h; cases h), (by intro h; cases h), (by intro h; cases h), fun _ => rfl⟩
  · exact cov_no _
theorem cov_S {a b c d : Bool} (o : Option D) : Cov (a, b, true, c, d) (footS o) := by
  unfold footS
  split
  · exact ⟨(by intro h; cases h), (by intro h; cases h), fun _ => rfl, (by intro h; cases h), (by intro h; cases h), (by intro h; cases h)⟩
  · exact cov_no _
theorem cov_N {a b c d : Bool} (k : Nat) : Cov (a, b, c, true, d) ⟨none, none, none, some k, false, false⟩ := ⟨(by intro h; cases h), (by intro h; cases h), (by intro h; cases h), fun _ => rfl, (by intro h; cases h), (by intro h; cases h)⟩
theorem foot_cov (τ : St) (o : PO) : Cov (clsO o) (foot τ o) := by
  cases o with
  | load n ag x => exact cov_R _
  | store n a x => exact cov_W _
  | copy a x => exact cov_W _
  | slcA n vw x lo hi mx =>
    simp only [foot, clsO]
    cases vw
    · exact cov_W _
    · exact cov_S _
  | fadr f off x => exact cov_S _
  | iadrA n x i => exact cov_S _
  | iadrG n sz x i => exact cov_S _
  | allocAt r z => exact cov_N _
  | boxAt r x => exact cov_N _
  | callV x xs => exact ⟨(by intro h; cases h), (by intro h; cases h), (by intro h; cases h), (by intro h; cases h), fun _ => .inr rfl, (by intro h; cases h)⟩
  | appI sz x y => exact ⟨(by intro h; cases h), (by intro h; cases h), (by intro h; cases h), (by intro h; cases h), fun _ => .inr rfl, fun _ => rfl⟩
  | clr sz z x => exact ⟨(by intro h; cases h), (by intro h; cases h), (by intro h; cases h), (by intro h; cases h), fun _ => .inr rfl, fun _ => rfl⟩
  | atLd x => exact cov_R _
  | call g xs => exact ⟨(by intro h; cases h), (by intro h; cases h), (by intro h; cases h), (by intro h; cases h), fun _ => .inr rfl, (by intro h; cases h)⟩
  | _ => exact cov_no _
theorem neO_of {a b : Option Nat} (h : a.isSome = false ∨ b.isSome = false) : neO a b = true := by
  cases a <;> cases b <;> simp_all [neO]
theorem gOf {a b c d : Bool} (g1 : ¬ (a = true ∧ b = true)) (g2 : ¬ (a = true ∧ c = true)) (g3 : ¬ (c = true ∧ d = true)) : (!(a && (b || c)) && !(c && d)) = true := by
  revert g1 g2 g3; cases a <;> cases b <;> cases c <;> cases d <;> simp
theorem apartC_spec {x y : Bool × Bool × Bool × Bool × Bool} {F G : Foot} (hx : Cov x F) (hy : Cov y G) (h : apartC x y = true) : apartF F G = true := by
  obtain ⟨r, w, s, n, g⟩ := x
  obtain ⟨r', w', s', n', g'⟩ := y
  obtain ⟨x1, x2, x3, x4, x5, x6⟩ := hx
  obtain ⟨y1, y2, y3, y4, y5, y6⟩ := hy
  simp only at x1 x2 x3 x4 x5 x6 y1 y2 y3 y4 y5 y6
  have c : ∀ {p q : Bool}, (p = true → q = true) → q = false → p = false := fun {p q} h1 h2 => by cases p <;> simp_all
  have pick : ∀ {p q : Bool} {a b : Option Nat}, (a.isSome = true → p = true) → (b.isSome = true → q = true) → (p = true → q = true → False) → neO a b = true := by
    intro p q a b h1 h2 h3
    apply neO_of
    cases ha : a.isSome with
    | false => exact .inl rfl
    | true =>
      cases hb : b.isSome with
      | false => exact .inr rfl
      | true => exact (h3 (h1 ha) (h2 hb)).elim
  simp only [apartC, Bool.and_eq_true, Bool.not_eq_true', Bool.and_eq_false_iff, Bool.or_eq_false_iff] at h
  obtain ⟨⟨⟨h1, h2⟩, h3⟩, h4⟩ := h
  have g1 : ¬ (F.gw = true ∧ G.gr = true) := by
    rintro ⟨e1, e2⟩
    have := x6 e1; subst this
    rcases y5 e2 with e3 | e3 <;> subst e3 <;> simp at h3
  have g2 : ¬ (F.gw = true ∧ G.gw = true) := by
    rintro ⟨e1, e2⟩
    have := x6 e1; subst this
    have := y6 e2; subst this
    simp at h3
  have g3 : ¬ (G.gw = true ∧ F.gr = true) := by
    rintro ⟨e1, e2⟩
    have := y6 e1; subst this
    rcases x5 e2 with e3 | e3 <;> subst e3 <;> simp at h4
  have g4 := gOf g1 g2 g3
  simp only [Bool.and_eq_true] at g4
  simp only [apartF, Bool.and_eq_true]
  refine ⟨⟨⟨⟨⟨⟨⟨⟨⟨⟨⟨pick x4 y4 ?_, pick x4 y1 ?_⟩, pick x4 y2 ?_⟩, pick x4 y3 ?_⟩, pick y4 x1 ?_⟩, pick y4 x2 ?_⟩, pick y4 x3 ?_⟩, pick x2 y2 ?_⟩, pick x2 y1 ?_⟩, pick y2 x1 ?_⟩, g4.1⟩, g4.2⟩
  all_goals (intro e1 e2; subst e1; subst e2; first | (simp at h1; done) | (simp at h2; done) | (simp at h3; done) | (simp at h4; done))
/-! the pairs -/
theorem pairsOk_spec : ∀ {dep : List (Nat × Nat)} {fs : List Foot} {i j : Nat}, pairsOk dep fs → (i, j) ∈ dep → apartF (getF fs i) (getF fs j) = true
  | [], _, _, _, _, h => by simp at h
  | (a, b) :: dep, fs, i, j, hp, h => by
    rcases List.mem_cons.1 h with e | h
    · cases e; exact hp.1
    · exact pairsOk_spec hp.2 h
theorem getF_get : ∀ {fs : List Foot} {i : Nat} {F : Foot}, fs[i]? = some F → getF fs i = F
  | [], _, _, h => by simp at h
  | f :: fs, 0, F, h => by simpa [getF] using h
  | f :: fs, i + 1, F, h => by simp only [getF]; exact getF_get (by simpa using h)
theorem depsJ_spec {x : PI} {i : Nat} {ws : List Nat} : ∀ {l : List PI} {j0 : Nat} {r : List (Nat × Nat)}, depsJ x i ws j0 l = some r →
    ∀ k y, l[k]? = some y → j0 + k < i → ws.contains (j0 + k) = true ∨ (apartI y x = true ∧ (apartC (clsO y.op) (clsO x.op) = true ∨ (j0 + k, i) ∈ r))
  | [], j0, r, h, k, y, hk, hlt => by simp at hk
  | z :: l, j0, r, h, k, y, hk, hlt => by
    simp only [depsJ] at h
    rw [if_neg (by omega)] at h
    split at h
    · cases h
    · rename_i r0 h0
      have rest : ∀ k y, l[k]? = some y → j0 + 1 + k < i → ws.contains (j0 + 1 + k) = true ∨ (apartI y x = true ∧ (apartC (clsO y.op) (clsO x.op) = true ∨ (j0 + 1 + k, i) ∈ r0)) := depsJ_spec h0
      have sub : ∀ q ∈ r0, q ∈ r := by
        intro q hq
        split at h
        · cases h; exact hq
        · split at h
          · cases h
          · split at h
            · cases h; exact hq
            · cases h; exact List.mem_cons_of_mem _ hq
      cases k with
      | zero =>
        simp only [List.getElem?_cons_zero, Option.some.injEq] at hk; subst hk
        simp only [Nat.add_zero]
        split at h
        · rename_i hc; exact .inl hc
        · split at h
          · cases h
          · rename_i ha
            split at h
            · rename_i hc; exact .inr ⟨by cases e : apartI z x <;> simp_all, .inl hc⟩
            · cases h; exact .inr ⟨by cases e : apartI z x <;> simp_all, .inr (List.mem_cons_self ..)⟩
      | succ k =>
        have := rest k y (by simpa using hk) (by omega)
        rw [show j0 + 1 + k = j0 + (k + 1) by omega] at this
        rcases this with h1 | ⟨h1, h2 | h2⟩
        · exact .inl h1
        · exact .inr ⟨h1, .inl h2⟩
        · exact .inr ⟨h1, .inr (sub _ h2)⟩
theorem depsI_spec {tab : List (List Nat)} {all : List PI} : ∀ {ops : List Oper} {is : List PI} {i : Nat} {dep : List (Nat × Nat)}, depsI tab all i ops is = some dep →
    ∀ k o x, ops[k]? = some o → is[k]? = some x → (∀ p ∈ predsOf o, p < i + k) ∧
      ∀ j y, all[j]? = some y → j < i + k → (getW tab (i + k)).contains j = true ∨ (apartI y x = true ∧ (apartC (clsO y.op) (clsO x.op) = true ∨ (j, i + k) ∈ dep))
  | [], is, i, dep, h, k, o, x, ho, hx => by simp at ho
  | o' :: ops, [], i, dep, h, k, o, x, ho, hx => by simp at hx
  | o' :: ops, x' :: is, i, dep, h, k, o, x, ho, hx => by
    simp only [depsI] at h
    split at h
    · rename_i hp
      split at h
      · rename_i a b h1 h2; cases h
        cases k with
        | zero =>
          simp only [List.getElem?_cons_zero, Option.some.injEq] at ho hx; subst ho; subst hx
          refine ⟨fun p hpm => by simpa using (List.all_eq_true.1 hp) p hpm, fun j y hy hlt => ?_⟩
          have := depsJ_spec h1 j y hy (by omega)
          simp only [Nat.zero_add] at this
          rcases this with h3 | ⟨h3, h4 | h4⟩
          · exact .inl h3
          · exact .inr ⟨h3, .inl h4⟩
          · exact .inr ⟨h3, .inr (List.mem_append_left _ h4)⟩
        | succ k =>
          obtain ⟨h3, h4⟩ := depsI_spec h2 k o x (by simpa using ho) (by simpa using hx)
          rw [show i + 1 + k = i + (k + 1) by omega] at h3 h4
          refine ⟨h3, fun j y hy hlt => ?_⟩
          rcases h4 j y hy hlt with h5 | ⟨h5, h6 | h6⟩
          · exact .inl h5
          · exact .inr ⟨h5, .inl h6⟩
          · exact .inr ⟨h5, .inr (List.mem_append_right _ h6)⟩
      · cases h
    · cases h
theorem insN_mem {l : List Nat} {x a : Nat} (h : a ∈ insN l x) : a = x ∨ a ∈ l := by
  unfold insN at h
  split at h
  · exact .inr h
  · exact List.mem_cons.1 h
theorem foldN_mem : ∀ {xs w : List Nat} {a : Nat}, a ∈ xs.foldl insN w → a ∈ xs ∨ a ∈ w
  | [], w, a, h => .inr h
  | x :: xs, w, a, h => by
    simp only [List.foldl_cons] at h
    rcases foldN_mem h with h1 | h1
    · exact .inl (List.mem_cons_of_mem _ h1)
    · rcases insN_mem h1 with h2 | h2
      · exact .inl (by rw [h2]; exact List.mem_cons_self ..)
      · exact .inr h2
theorem row_mem {acc : List (List Nat)} : ∀ {ps w : List Nat} {a : Nat}, a ∈ ps.foldl (fun w j => (j :: getW acc j).foldl insN w) w → (∃ j ∈ ps, a = j ∨ a ∈ getW acc j) ∨ a ∈ w
  | [], w, a, h => .inr h
  | p :: ps, w, a, h => by
    simp only [List.foldl_cons] at h
    rcases row_mem h with ⟨j, h1, h2⟩ | h1
    · exact .inl ⟨j, List.mem_cons_of_mem _ h1, h2⟩
    · have : a ∈ (p :: getW acc p).foldl insN w := h1
      rcases foldN_mem this with h2 | h2
      · exact .inl ⟨p, List.mem_cons_self .., List.mem_cons.1 h2⟩
      · exact .inr h2
theorem getW_app : ∀ {l m : List (List Nat)} {k : Nat}, k < l.length → getW (l ++ m) k = getW l k
  | [], m, k, h => by simp at h
  | x :: l, m, 0, h => rfl
  | x :: l, m, k + 1, h => by simp only [List.cons_append, getW]; exact getW_app (by simpa using h)
theorem getW_end : ∀ {l : List (List Nat)} {x : List Nat}, getW (l ++ [x]) l.length = x
  | [], x => rfl
  | y :: l, x => by simp only [List.cons_append, List.length_cons, getW]; exact getW_end
theorem waitTab_pre : ∀ {l : List Oper} {acc : List (List Nat)} {k : Nat}, k < acc.length → getW (waitTab l acc) k = getW acc k
  | [], acc, k, h => rfl
  | o :: l, acc, k, h => by
    simp only [waitTab]
    rw [waitTab_pre (by simp; omega), getW_app h]
theorem waitTab_mem : ∀ {l : List Oper} {acc : List (List Nat)} {i : Nat} {o : Oper}, l[i]? = some o → (∀ j ∈ predsOf o, j < acc.length + i) → ∀ a ∈ getW (waitTab l acc) (acc.length + i), ∃ j ∈ predsOf o, a = j ∨ a ∈ getW (waitTab l acc) j
  | [], acc, i, o, h, _, _, _ => by simp at h
  | o' :: l, acc, 0, o, h, hp, a, ha => by
    simp only [List.getElem?_cons_zero, Option.some.injEq] at h; subst h
    simp only [waitTab, Nat.add_zero] at ha ⊢
    rw [waitTab_pre (by simp), getW_end] at ha
    rcases row_mem ha with ⟨j, h1, h2⟩ | h1
    · have hj : j < acc.length := by have := hp j h1; omega
      refine ⟨j, h1, ?_⟩
      rw [waitTab_pre (by simp; omega), getW_app hj]; exact h2
    · simp at h1
  | o' :: l, acc, i + 1, o, h, hp, a, ha => by
    simp only [waitTab] at ha ⊢
    refine waitTab_mem (acc := acc ++ [_]) (i := i) (by simpa using h) (fun j hj => ?_) a ?_
    · have := hp j hj; simp; omega
    · have e : (acc ++ [List.foldl (fun w j => List.foldl insN w (j :: getW acc j)) [] (predsOf o')]).length + i = acc.length + (i + 1) := by simp; omega
      rw [e]; exact ha
end Go.Abs
namespace Go.Abs
open Go Go.RowKit
set_option linter.unusedVariables false
set_option linter.unusedSimpArgs false
variable {E : Env} {C : Spec} {c : Ctx} {m : Mem} {σ : St} {a : Act} {w : World}
theorem InvW.eqv {σ2 : St} (h : InvW c m σ a w) (e : Eqv σ σ2) : InvW c m σ2 a w := by
  obtain ⟨vs, ts, L, G⟩ := σ
  obtain ⟨vs2, ts2, L2, G2⟩ := σ2
  obtain ⟨e1, e2, e3, e4⟩ := e
  simp only at e1 e2 e3 e4; subst e1; subst e3; subst e4
  exact { h with envT := fun t d hd => h.envT t d (by rw [← e2]; exact hd) }
/-- What comes back, as a table of what functions hand back. -/
def retC (E : Env) : Spec := fun g vs G Q => Ret E g vs G Q
theorem Ret.mono {g : Nat} {vs : List V} {G : List (Nat × V)} {Q Q' : R → List (Nat × V) → Prop} (h : Ret E g vs G Q) (hq : ∀ r G', Q r G' → Q' r G') : Ret E g vs G Q' := by
  intro Mc B w args h1 h2 h3
  refine Calls.mono (h Mc B w args h1 h2 h3) ?_
  rintro e w' ⟨v, r, G', m', e1, e2, e3, e4⟩
  exact ⟨v, r, G', m', e1, hq _ _ e2, e3, e4⟩
theorem wopD_wop (hC : C.Sound E) {t : AD} {po : PO} {K : St → Prop} (h : WopD E C t po K σ) : Wop E (retC E) t po K σ := by
  cases po with
  | call g xs =>
    have h : callDO C g (σ.evs xs) K σ t := h
    show callO (retC E) g (σ.evs xs) K σ t
    unfold callDO at h
    unfold callO
    split at h
    · rename_i vs hvs
      exact (hC _ _ _ _ h).mono fun r G' hq => by obtain ⟨rfl, hq⟩ := hq; exact hq
    · exact h
  | nileq neg x => exact False.elim h
  | new z => exact False.elim h
  | callV x xs =>
    have h : callVD C (calleeOk E.P) K σ t (asV (σ.ev x)) (σ.evs xs) := h
    show callVK (retC E) (calleeOk E.P) K σ t (asV (σ.ev x)) (σ.evs xs)
    unfold callVD at h
    unfold callVK
    split at h
    · rename_i f caps vs hx hvs
      exact ⟨h.1, (hC _ _ _ _ h.2).mono fun r G' hq => by obtain ⟨rfl, hq⟩ := hq; exact hq⟩
    · exact h.elim
  | appR sz bytes z x y => exact False.elim h
  | appI sz x y => exact False.elim h
  | clr sz z x => exact False.elim h
  | atLd x => exact False.elim h
  | atSt a x => exact False.elim h
  | atAdd a x => exact False.elim h
  | newB x => exact False.elim h
  | alloc z => exact False.elim h
  | box x => exact False.elim h
  | _ => exact h
theorem op_step (hC : C.Sound E) {ops : Array Oper} {i : Nat} {o : Oper} {rr : Option Nat} {pi : PI} {K : St → Prop} {next : Act → World → Prop} {QQ : Exit → Act → World → Prop} (h : InvW c m σ a w) (hP : c.P = E.P) (htab : c.tab = E.tab)
    (hoi : ops[i]? = some o) (h1 : prepI c.P c.K c.N ops.toList rr o = some pi) (hW : StepD E C pi (fun _ => K) σ) (ih : ∀ σ' m' a' w', InvW c m' σ' a' w' → K σ' → next a' w') : wpOp c.P ops QQ i next a w := by
  unfold prepI at h1
  split at h1
  · rename_i t g hd hg
    cases h1
    simp only [wpOp, hoi]
    have go : ∀ σ, InvW c m σ a w → WopD E C t ((prepOp c.P c.K ops.toList rr o).getD .bad) K σ → o.wp c.P a w next QQ := by
      intro σ h hW
      cases hpo : prepOp c.P c.K ops.toList rr o with
      | none => rw [hpo] at hW; exact False.elim hW
      | some po =>
        rw [hpo] at hW
        exact Wop_sound (C := retC E) (fun _ _ _ _ h => h) h hP htab (by rw [h.vsK]; exact hpo) (by rw [h.vsK]; exact hd) (wopD_wop hC hW) ih
    have skip : ∀ σ, InvW c m σ a w → skipK t K σ → next (a.put o.dst undef) w := by
      intro σ h hW
      exact ih _ m _ w (h.put (by rw [h.vsK]; exact hd) (d := .un) (v := undef) rfl) hW
    cases hgd : o.guard with
    | none =>
      rw [hgd] at hg; simp only [prepG] at hg; cases hg
      have hwant : Region.wanted o (yielded ops a.tmps) = true := by simp [Region.wanted, hgd]
      rw [if_pos hwant]
      exact .inl (go σ h hW)
    | some jw =>
      obtain ⟨j, want⟩ := jw
      rw [hgd] at hg
      obtain ⟨s, hs, rfl⟩ := prepG_spec hg
      replace hW : guardO (if s < c.K then .v s else .t s) want (σ.ev (if s < c.K then .v s else .t s)) (WopD E C t ((prepOp c.P c.K ops.toList rr o).getD .bad) K) (skipK t K) σ := hW
      have hy : ∀ d, σ.ev (if s < c.K then .v s else .t s) = some d → (∀ b, d = .v (.bool b) → yielded ops a.tmps j = some b) ∧ (d = .un → yielded ops a.tmps j = none) := by
        intro d hd
        obtain ⟨e1, e2⟩ := ev_tmp h hd
        have e3 := tmps_get h.size e1
        refine ⟨fun b hb => ?_, fun hb => ?_⟩
        · subst hb
          have e2 : RepW w _ (.bool b) _ := e2
          simp only [RepW, V.isAgg, Bool.false_eq_true, if_false, RepV, List.cons.injEq, and_true] at e2
          simp only [yielded, hs, Option.bind_some, e3, e2]
        · subst hb
          have e2 : _ = undef := e2
          simp only [yielded, hs, Option.bind_some, e3]; rw [e2]; rfl
      cases hev : σ.ev (if s < c.K then .v s else .t s) with
      | none => rw [hev] at hW; exact hW.elim
      | some d =>
        obtain ⟨y1, y2⟩ := hy d hev
        rw [hev] at hW
        simp only [guardO] at hW
        split at hW
        · rename_i e; cases e
          have y := y1 true rfl
          have h' := h.again hev
          split at hW
          · rename_i hw; subst hw
            have hwant : Region.wanted o (yielded ops a.tmps) = true := by simp [Region.wanted, hgd, y]
            rw [if_pos hwant]; exact .inl (go _ h' hW)
          · rename_i hw
            have hwant : Region.wanted o (yielded ops a.tmps) = false := by cases want <;> simp_all [Region.wanted]
            rw [if_neg (by rw [hwant]; exact Bool.false_ne_true)]; exact skip _ h' hW
        · rename_i e; cases e
          have y := y1 false rfl
          have h' := h.again hev
          split at hW
          · rename_i hw; subst hw
            have hwant : Region.wanted o (yielded ops a.tmps) = false := by simp [Region.wanted, hgd, y]
            rw [if_neg (by rw [hwant]; exact Bool.false_ne_true)]; exact skip _ h' hW
          · rename_i hw
            have hwant : Region.wanted o (yielded ops a.tmps) = true := by cases want <;> simp_all [Region.wanted]
            rw [if_pos hwant]; exact .inl (go _ h' hW)
        · rename_i e; cases e
          have y := y2 rfl
          have hwant : Region.wanted o (yielded ops a.tmps) = false := by simp [Region.wanted, hgd, y]
          rw [if_neg (by rw [hwant]; exact Bool.false_ne_true)]; exact skip _ h hW
        · exact hW.elim
  · cases h1
theorem predsOf_mem {o : Oper} {p : Nat} : p ∈ predsOf o ↔ ∃ e ∈ o.after, Region.binds .any e = true ∧ e.on = p := by
  simp only [predsOf, List.mem_filterMap, Array.mem_toList_iff]
  constructor
  · rintro ⟨e, h1, h2⟩
    split at h2
    · rename_i h3; cases h2; exact ⟨e, h1, h3, rfl⟩
    · cases h2
  · rintro ⟨e, h1, h2, rfl⟩
    exact ⟨e, h1, by rw [if_pos h2]⟩
theorem getD_tf {l : Array Bool} {j : Nat} (h : j < l.size) : l.getD j true = l.getD j false := by
  simp [Array.getD, h]
/-- Whatever order is drawn, the end is the same. -/
theorem any_sound (hC : C.Sound E) (hP : c.P = E.P) (htab : c.tab = E.tab) {ops : Array Oper} {T : List (List Nat)} {fin : St} {QQ : Exit → Act → World → Prop}
    (hT : ∀ i o, ops[i]? = some o → ∀ x ∈ getW T i, ∃ j ∈ predsOf o, x = j ∨ x ∈ getW T j) (hpre : ∀ i o, ops[i]? = some o → ∀ p ∈ predsOf o, p < i)
    (hQ : ∀ m a w, InvW c m fin a w → QQ .normal a w) : ∀ (n : Nat) (R : List It) (listed : Array Bool) (σ : St) (m : Mem) (a : Act) (w : World), R.length = n → InvW c m σ a w → Chain E C R σ fin → listed.size = ops.size →
      (∀ j, j < ops.size → (listed.getD j true = false ↔ ∃ r ∈ R, r.n = j)) → (∀ r ∈ R, ∃ o rr, ops[r.n]? = some o ∧ prepI c.P c.K c.N ops.toList rr o = some r.i) →
      R.Pairwise (fun x y => x.n < y.n ∧ (x.n ∈ getW T y.n ∨ Apart x y)) → (∀ j, listed.getD j false = true → ∀ x ∈ getW T j, listed.getD x false = true) → wpAny c.P .any ops QQ n listed a w
  | 0, R, listed, σ, m, a, w, hn, h, hc, hsz, hl, hops, hpw, hcl => by
    have hR : R = [] := List.length_eq_zero_iff.1 hn
    subst hR
    refine ⟨?_, hQ m a w (h.eqv hc)⟩
    apply List.eq_nil_iff_forall_not_mem.2
    intro j hj
    obtain ⟨h1, o, h2, _⟩ := mem_ready.1 hj
    have hlt := (Array.getElem?_eq_some_iff.1 h2).1
    obtain ⟨r, hr, _⟩ := (hl j hlt).1 h1
    simp at hr
  | n + 1, R, listed, σ, m, a, w, hn, h, hc, hsz, hl, hops, hpw, hcl => by
    refine ⟨fun hr0 => ?_, fun j hj => ?_⟩
    · exfalso
      cases R with
      | nil => simp at hn
      | cons r R =>
        obtain ⟨o, rr, ho, hpi⟩ := hops r (List.mem_cons_self ..)
        have hlt := (Array.getElem?_eq_some_iff.1 ho).1
        have : r.n ∈ Region.ready .any ops listed := by
          rw [mem_ready]
          refine ⟨(hl _ hlt).2 ⟨r, List.mem_cons_self .., rfl⟩, o, ho, fun e he hb => ?_⟩
          have hp : e.on < r.n := hpre _ o ho _ (predsOf_mem.2 ⟨e, he, hb, rfl⟩)
          have hlt2 : e.on < ops.size := by omega
          rw [← getD_tf (by omega)]
          cases hx : listed.getD e.on true with
          | true => rfl
          | false =>
            obtain ⟨r', hr', e'⟩ := (hl _ hlt2).1 hx
            rcases List.mem_cons.1 hr' with rfl | hr'
            · omega
            · have := (List.pairwise_cons.1 hpw).1 r' hr'
              omega
        rw [hr0] at this; cases this
    · obtain ⟨h1, o, ho, hall⟩ := mem_ready.1 hj
      have hlt := (Array.getElem?_eq_some_iff.1 ho).1
      obtain ⟨r, hr, rfl⟩ := (hl j hlt).1 h1
      obtain ⟨A, B, rfl⟩ := List.append_of_mem hr
      obtain ⟨o', rr, ho', hpi⟩ := hops r hr
      rw [ho] at ho'; cases ho'
      have hpreds : ∀ p ∈ predsOf o, listed.getD p false = true := fun p hp => by
        obtain ⟨e, h3, h4, rfl⟩ := predsOf_mem.1 hp
        exact hall e h3 h4
      have hwt : ∀ x ∈ getW T r.n, listed.getD x false = true := fun x hx => by
        obtain ⟨p, hp, h3⟩ := hT _ o ho x hx
        rcases h3 with rfl | h3
        · exact hpreds _ hp
        · exact hcl p (hpreds p hp) x h3
      have hA : ∀ x ∈ A, Apart x r := fun x hx => by
        obtain ⟨h3, h4⟩ := (List.pairwise_append.1 hpw).2.2 x hx r (List.mem_cons_self ..)
        rcases h4 with h4 | h4
        · exfalso
          have h5 := hwt _ h4
          obtain ⟨ox, _, hox, _⟩ := hops x (List.mem_append_left _ hx)
          have hxlt := (Array.getElem?_eq_some_iff.1 hox).1
          have h6 := (hl x.n hxlt).2 ⟨x, List.mem_append_left _ hx, rfl⟩
          rw [getD_tf (by omega), h5] at h6; cases h6
        · exact h4
      obtain ⟨hloc, hrest⟩ := Chain.front hA hc
      have hne : ∀ x ∈ A ++ B, x.n ≠ r.n := fun x hx => by
        rcases List.mem_append.1 hx with hx | hx
        · have := ((List.pairwise_append.1 hpw).2.2 x hx r (List.mem_cons_self ..)).1; omega
        · have := ((List.pairwise_cons.1 (List.pairwise_append.1 hpw).2.1).1 x hx).1; omega
      have hsub : (A ++ B).Sublist (A ++ r :: B) := List.Sublist.append_left (List.sublist_cons_self r B) A
      refine op_step hC h hP htab ho hpi (hloc.go σ (Agree.refl _ _ _)) ?_
      intro σ' m' a' w' h' he
      refine any_sound hC hP htab hT hpre hQ n (A ++ B) _ (r.δ.app σ) m' a' w' (by simp at hn ⊢; omega) (h'.eqv he.symm) hrest (by simpa using hsz) ?_ (fun x hx => hops x (hsub.subset hx)) (hpw.sublist hsub) ?_
      · intro j hjlt
        by_cases e : j = r.n
        · subst e
          have : (listed.setIfInBounds r.n true).getD r.n true = true := by simp [Array.getD]
          rw [this]
          constructor
          · intro h; cases h
          · rintro ⟨x, hx, e⟩; exact absurd e (hne x hx)
        · rw [getD_set_ne true (fun e' => e e'.symm), hl j hjlt]
          constructor
          · rintro ⟨x, hx, rfl⟩
            refine ⟨x, ?_, rfl⟩
            rcases List.mem_append.1 hx with hx | hx
            · exact List.mem_append_left _ hx
            · rcases List.mem_cons.1 hx with rfl | hx
              · exact absurd rfl e
              · exact List.mem_append_right _ hx
          · rintro ⟨x, hx, rfl⟩; exact ⟨x, hsub.subset hx, rfl⟩
      · intro j hj2 x hx
        by_cases e : j = r.n
        · subst e; exact getD_set_true (hwt x hx)
        · rw [getD_set_ne false (fun e' => e e'.symm)] at hj2
          exact getD_set_true (hcl j hj2 x hx)
end Go.Abs
namespace Go.Abs
open Go Go.RowKit
set_option linter.unusedVariables false
set_option linter.unusedSimpArgs false
variable {E : Env} {C : Spec} {c : Ctx} {m : Mem} {σ : St} {a : Act} {w : World}
theorem prepIs_get {P : Program} {K N : Nat} {es : List Nat} {d : Bool} {all : List Oper} : ∀ {l : List Oper} {is : List PI}, prepIs P K N es d all l = some is → is.length = l.length ∧
    ∀ (k : Nat) o x, l[k]? = some o → is[k]? = some x → ∃ rr, prepI P K N all rr o = some x
  | [], is, h => by simp only [prepIs] at h; cases h; exact ⟨rfl, fun k o x h => by simp at h⟩
  | o :: l, is, h => by
    simp only [prepIs] at h
    cases h1 : prepI P K N all (rOf es d (cntA (o :: l)) o.dst) o with
    | none => simp [h1, consO] at h
    | some x =>
      cases h2 : prepIs P K N es d all l with
      | none => simp [h1, h2, consO] at h
      | some is' =>
        simp only [h1, h2, consO] at h; cases h
        obtain ⟨h3, h4⟩ := prepIs_get h2
        refine ⟨by simp [h3], fun k o' x' ho hx => ?_⟩
        cases k with
        | zero => simp at ho hx; subst ho; subst hx; exact ⟨_, h1⟩
        | succ k => exact h4 k o' x' (by simpa using ho) (by simpa using hx)
theorem regD_sound {es : List Nat} (hC : C.Sound E) (hdet : C.Det) (hP : c.P = E.P) (htab : c.tab = E.tab) {id : Nat} {ops : Array Oper} {is : List PI} {dep : List (Nat × Nat)} {K : St → Prop} {QQ : Exit → Act → World → Prop}
    (hm : c.P.follows .mixedOrders = true) (hp : prepIs c.P c.K c.N es true ops.toList ops.toList = some is) (hd : depsOf ops.toList is = some dep) (h : InvW c m σ a w)
    (hW : startD (cntA ops.toList) (WopsD E C is [] (endD dep K)) σ) (hQ : ∀ σ' m' a' w', InvW c m' σ' a' w' → K σ' → QQ .normal a' w') : (Code.region id ops true).wp c.P QQ a w := by
  obtain ⟨R, fin, h1, h2, h3, h4, h5, h6⟩ := chain_of hdet is 0 [] _ _ hW
  obtain ⟨hlen, hget⟩ := prepIs_get hp
  have hRlen : R.length = is.length := by rw [← h2]; simp
  have hn : ∀ (k : Nat) r, R[k]? = some r → r.n = k := by
    intro k r hr
    have : (R.map (·.n))[k]? = some r.n := by simp [hr]
    rw [h3] at this
    obtain ⟨h7, h8⟩ := List.getElem?_eq_some_iff.1 this
    simp at h8; omega
  have hi : ∀ (k : Nat) r, R[k]? = some r → is[k]? = some r.i := by
    intro k r hr; rw [← h2]; simp [hr]
  have hop : ∀ (k : Nat) r, R[k]? = some r → ∃ o, ops[k]? = some o ∧ ops.toList[k]? = some o := by
    intro k r hr
    have hlt := (List.getElem?_eq_some_iff.1 hr).1
    have : k < ops.toList.length := by omega
    exact ⟨ops.toList[k], by rw [← Array.getElem?_toList]; exact List.getElem?_eq_getElem this, List.getElem?_eq_getElem this⟩
  have hspec := fun k o x h1 h2 => depsI_spec hd k o x h1 h2
  simp only [Nat.zero_add] at hspec
  have hpre : ∀ i o, ops[i]? = some o → ∀ p ∈ predsOf o, p < i := by
    intro i o ho
    rw [← Array.getElem?_toList] at ho
    have hlt := (List.getElem?_eq_some_iff.1 ho).1
    exact (hspec i o _ ho (List.getElem?_eq_getElem (by omega))).1
  refine wp_region_any hm ?_
  refine any_sound (T := waitTab ops.toList []) hC hP htab ?_ hpre (fun m' a' w' h' => hQ fin m' a' w' h' h6) ops.size R _ _ _ a _ (by simp [hRlen, hlen]) ((h.clear.more (cntA ops.toList)).drew 1) h1 (by simp) ?_ ?_ ?_ ?_
  · intro i o ho x hx
    have := waitTab_mem (acc := []) (i := i) (o := o) (l := ops.toList) (by rw [Array.getElem?_toList]; exact ho) (by simpa using hpre i o ho) x (by simpa using hx)
    exact this
  · intro j hj
    constructor
    · intro _
      have : j < R.length := by simp [hRlen, hlen]; omega
      exact ⟨R[j], List.getElem_mem this, hn j _ (List.getElem?_eq_getElem this)⟩
    · intro _; simp [Array.getD, hj]
  · intro r hr
    obtain ⟨k, hk⟩ := List.mem_iff_getElem?.1 hr
    obtain ⟨o, ho, ho2⟩ := hop k r hk
    obtain ⟨rr, hrr⟩ := hget k o r.i ho2 (hi k r hk)
    exact ⟨o, rr, by rw [hn k r hk]; exact ho, hrr⟩
  · rw [List.pairwise_iff_getElem]
    intro j k hj hk hjk
    have ej := List.getElem?_eq_getElem hj
    have ek := List.getElem?_eq_getElem hk
    rw [hn j _ ej, hn k _ ek]
    refine ⟨hjk, ?_⟩
    obtain ⟨o, _, ho⟩ := hop k _ ek
    rcases (hspec k o _ ho (hi k _ ek)).2 j _ (hi j _ ej) hjk with h7 | ⟨h7, h8⟩
    · left; simpa using h7
    · right
      refine ⟨h7, ?_⟩
      rcases h8 with h8 | h8
      · refine apartC_spec ?_ ?_ h8
        · obtain ⟨τ, h9 | h9⟩ := h4 _ (List.getElem_mem hj)
          · rw [h9]; exact foot_cov _ _
          · rw [h9]; exact cov_no _
        · obtain ⟨τ, h9 | h9⟩ := h4 _ (List.getElem_mem hk)
          · rw [h9]; exact foot_cov _ _
          · rw [h9]; exact cov_no _
      · have := pairsOk_spec h5 h8
        rw [getF_get (F := R[j].F) (by simp [ej]), getF_get (F := R[k].F) (by simp [ek])] at this
        exact this
  · intro j hj
    exfalso
    by_cases h : j < ops.size <;> simp [Array.getD, h] at hj
end Go.Abs
namespace Go.Abs
open Go Go.RowKit
set_option linter.unusedVariables false
set_option linter.unusedSimpArgs false
section
variable {E : Env} {C : Spec} {c : Ctx} {m : Mem} {σ : St} {a : Act} {w : World}
def exm : Ex → Exit
  | .normal => .normal
  | .exit id => .exit id
  | .ret => .ret
theorem W_sound {es : List Nat} (hC : C.Sound E) (hdet : C.Det) (hP : c.P = E.P) (htab : c.tab = E.tab) : ∀ (code : Code) (ks : List (List Nat)) (pc : PC) (ks' : List (List Nat)), prepC c.P c.K c.N es code ks = some (pc, ks') →
    ∀ (σ : St) (m : Mem) (a : Act) (w : World) (Q : Ex → St → Prop) (QQ : Exit → Act → World → Prop), InvW c m σ a w → W E C pc Q σ →
      (∀ e σ' m' a' w', InvW c m' σ' a' w' → Q e σ' → QQ (exm e) a' w') → code.wp c.P QQ a w
  | .skip, ks, pc, ks', hp, σ, m, a, w, Q, QQ, h, hW, hQ => by
    simp only [prepC] at hp; cases hp; exact wp_skip (hQ _ _ _ _ _ h hW)
  | .ret, ks, pc, ks', hp, σ, m, a, w, Q, QQ, h, hW, hQ => by
    simp only [prepC] at hp; cases hp; exact wp_ret (hQ _ _ _ _ _ h hW)
  | .exit id, ks, pc, ks', hp, σ, m, a, w, Q, QQ, h, hW, hQ => by
    simp only [prepC] at hp; cases hp; exact wp_exit (hQ _ _ _ _ _ h hW)
  | .seq x y, ks, pc, ks', hp, σ, m, a, w, Q, QQ, h, hW, hQ => by
    simp only [prepC] at hp
    cases h1 : prepC c.P c.K c.N es x ks with
    | none => simp [h1] at hp
    | some r1 =>
      obtain ⟨px, k1⟩ := r1
      simp only [h1] at hp
      cases h2 : prepC c.P c.K c.N es y k1 with
      | none => simp [h2] at hp
      | some r2 =>
        obtain ⟨py, k2⟩ := r2
        simp only [h2] at hp; cases hp
        refine wp_seq (W_sound hC hdet hP htab x ks px k1 h1 σ m a w _ _ h hW ?_)
        intro e σ' m' a' w' h' hq
        cases e with
        | normal => exact W_sound hC hdet hP htab y k1 py _ h2 σ' m' a' w' _ _ h' hq hQ
        | exit id => exact hQ _ _ _ _ _ h' hq
        | ret => exact hQ _ _ _ _ _ h' hq
  | .cond cc x y, ks, pc, ks', hp, σ, m, a, w, Q, QQ, h, hW, hQ => by
    simp only [prepC] at hp
    cases h0 : aoOf c.K cc with
    | none => simp [h0] at hp
    | some ac =>
    cases h1 : prepC c.P c.K c.N es x ks with
    | none => simp [h0, h1] at hp
    | some r1 =>
      obtain ⟨px, k1⟩ := r1
      simp only [h0, h1] at hp
      cases h2 : prepC c.P c.K c.N es y k1 with
      | none => simp [h2] at hp
      | some r2 =>
        obtain ⟨py, k2⟩ := r2
        simp only [h2] at hp; cases hp
        have hW : condO (asB (σ.ev ac)) (W E C px Q σ) (W E C py Q σ) := hW
        cases hb : asB (σ.ev ac) with
        | none => rw [hb] at hW; exact hW.elim
        | some b =>
          have hB := h.rdB h0 hb
          rw [hb] at hW
          cases b with
          | true => exact wp_cond_true hB (W_sound hC hdet hP htab x ks px k1 h1 σ m a w _ _ h hW hQ)
          | false => exact wp_cond_false hB (W_sound hC hdet hP htab y k1 py _ h2 σ m a w _ _ h hW hQ)
  | .block id x, ks, pc, ks', hp, σ, m, a, w, Q, QQ, h, hW, hQ => by
    simp only [prepC] at hp
    cases h1 : prepC c.P c.K c.N es x ks with
    | none => simp [h1] at hp
    | some r1 =>
      obtain ⟨px, k1⟩ := r1
      simp only [h1] at hp; cases hp
      refine wp_block (W_sound hC hdet hP htab x ks px _ h1 σ m a w _ _ h hW ?_)
      intro e σ' m' a' w' h' hq
      cases e with
      | normal => exact hQ _ _ _ _ _ h' hq
      | exit id' =>
        simp only [blkK] at hq
        simp only [exm, Exit.inBlock]
        split at hq
        · rename_i e; rw [if_pos (beq_iff_eq.1 e)]; exact hQ _ _ _ _ _ h' hq
        · rename_i e; rw [if_neg (fun e' => e (beq_iff_eq.2 e'))]; exact hQ _ _ _ _ _ h' hq
      | ret => exact hQ _ _ _ _ _ h' hq
  | .loop x, ks, pc, ks', hp, σ, m, a, w, Q, QQ, h, hW, hQ => by
    cases ks with
    | nil => simp [prepC] at hp
    | cons k ks =>
      simp only [prepC] at hp
      cases h1 : prepC c.P c.K c.N es x ks with
      | none => simp [h1] at hp
      | some r1 =>
        obtain ⟨px, k1⟩ := r1
        simp only [h1] at hp; cases hp
        obtain ⟨n, hn⟩ : loopK (W E C px) k Q σ := hW
        refine wp_loop_rounds n ?_
        have key : ∀ n σ m a w, InvW c m σ a w → WL (W E C px) k Q n σ → Code.rounds c.P x QQ n a w := by
          intro n
          induction n with
          | zero => intro σ m a w h hW; exact hW.elim
          | succ n ih =>
            intro σ m a w h hW
            rw [rounds_succ]
            refine W_sound hC hdet hP htab x ks px _ h1 σ m a w _ _ h hW ?_
            intro e σ' m' a' w' h' hq
            cases e with
            | normal => exact ih _ m' a' w' (h'.keep k) hq
            | exit id => exact hQ _ _ _ _ _ h' hq
            | ret => exact hQ _ _ _ _ _ h' hq
        exact key n _ m a w (h.keep k) hn
  | .region id ops draw, ks, pc, ks', hp, σ, m, a, w, Q, QQ, h, hW, hQ => by
    simp only [prepC] at hp
    cases h1 : prepIs c.P c.K c.N es draw ops.toList ops.toList with
    | none => simp [h1] at hp
    | some is =>
      simp only [h1] at hp
      cases draw with
      | true =>
        rw [if_pos rfl] at hp
        cases h2 : depsOf ops.toList is with
        | none => simp [h2] at hp
        | some dep =>
          simp only [h2] at hp
          split at hp
          · rename_i hm; cases hp
            exact regD_sound hC hdet hP htab hm h1 h2 h hW (fun σ' m' a' w' h' hq => hQ .normal σ' m' a' w' h' hq)
          · cases hp
      | false =>
        cases hp
        refine wp_region ?_
        have := Wops_sound hC hP htab (QQ := QQ) (KK := Q .normal) (fun σ' m' a' w' h' hq => hQ .normal σ' m' a' w' h' hq) ops.toList 0 is _ m a w (by simp) h1 h.clear hW
        rw [List.range_eq_range']
        simpa using this
  | .scope _, _, _, _, hp, _, _, _, _, _, _, _, _, _ | .goto _, _, _, _, hp, _, _, _, _, _, _, _, _, _ | .label _, _, _, _, hp, _, _, _, _, _, _, _, _, _ => by simp [prepC] at hp
end
end Go.Abs
namespace Go.Abs
open Go Go.RowKit
set_option linter.unusedVariables false
set_option linter.unusedSimpArgs false
def chkV (n : Nat) (g : Bool) : Option V → Option V
  | some y => if y.size = n ∧ y.isAgg = g then some y else none
  | none => none
def resV (tab : List (Nat × V)) (σ : St) (a : AO) : Option (Nat × Bool) → Option V
  | none => asV (σ.ev a)
  | some (n, g) => chkV n g (subO (atO tab σ (σ.ev a)))
def resVs (tab : List (Nat × V)) (σ : St) : List (AO × Option (Nat × Bool)) → Option (List V)
  | [] => some []
  | (a, q) :: l => consO (resV tab σ a q) (resVs tab σ l)
def rD : Option D → Option R
  | some (.v x) => some (.v x)
  | some (.own x) => some (.own x)
  | _ => none
def rV : Option V → Option R
  | some x => some (.v x)
  | none => none
def rT : Option (List V) → Option R
  | some l => some (.tup l)
  | none => none
def resR (tab : List (Nat × V)) (σ : St) : List (AO × Option (Nat × Bool)) → Option R
  | [] => some (.tup [])
  | [(a, none)] => rD (σ.ev a)
  | [(a, some q)] => rV (resV tab σ a (some q))
  | x :: y :: l => rT (resVs tab σ (x :: y :: l))
def resQ (Q : R → List (Nat × V) → Prop) (G : List (Nat × V)) : Option R → Prop
  | some r => Q r G
  | none => False
def retQ (E : Env) (f : PF) (Q : R → List (Nat × V) → Prop) (e : Ex) (σ : St) : Prop := match e with
  | .exit _ => False
  | .normal => resQ Q σ.G (resR E.tab σ f.res)
  | .ret => resQ Q σ.G (resR E.tab σ f.res)
def initV (K : Nat) (vs : List V) : List (Option D) := vs.map (fun x => some (.v x)) ++ List.replicate (K - vs.length) none
/-- What must hold for the function to come back with 'Q'. -/
def Wf (E : Env) (C : Spec) (f : PF) (vs : List V) (G : List (Nat × V)) (Q : R → List (Nat × V) → Prop) : Prop :=
  W E C f.body (retQ E f Q) ⟨initV f.K vs, [], [], G⟩
section
variable {E : Env} {C : Spec} {c : Ctx} {m : Mem} {σ : St} {a : Act} {w : World}
theorem resV_spec (h : InvW c m σ a w) (htab : c.tab = E.tab) {P : Program} (hP : c.P = P) {rv : ResultVar} {l : List ResultVar} {ar : AO × Option (Nat × Bool)} {l' : List (AO × Option (Nat × Bool))} {y : V}
    (hp : prepRes P c.K (rv :: l) = some (ar :: l')) (hy : resV E.tab σ ar.1 ar.2 = some y) :
    ∃ v, (match rv with
      | .tmp t => (pure (a.tmps.getD t undef) : Sem Value)
      | .cell q t => do loadVar t (← asAddr (a.tmps.getD q undef))).run P w = .ok v w ∧ RepW w (MM c.Mc m.ow m.lo) y v := by
  cases rv with
  | tmp t =>
    simp only [prepRes] at hp
    split at hp
    · rename_i ax r h1 h2; cases hp
      simp only [resV] at hy
      exact ⟨_, rfl, h.rdV h1 hy⟩
    · cases hp
  | cell q t =>
    simp only [prepRes] at hp
    split at hp
    · rename_i ax s r h1 h2 h3; cases hp
      obtain ⟨n, g⟩ := s
      simp only [resV] at hy
      cases hz : subO (atO E.tab σ (σ.ev ax)) with
      | none => simp [hz, chkV] at hy
      | some z =>
        simp only [hz, chkV] at hy
        split at hy
        · rename_i hc; cases hy
          obtain ⟨i, d, s1, s2, s3, s4⟩ := szAg_spec h2
          rw [← htab] at hz
          obtain ⟨q', cs, h5, h6, h7⟩ := h.place h1 hz
          obtain ⟨v, h8, h9⟩ := run_loadVar (P := P) s1 s2 (by rw [s3, hc.1]) (by rw [s4, hc.2]) h6 h7
          have h5 : a.tmps.getD q undef = .pointer (some q') := h5
          refine ⟨v, ?_, h9⟩
          simp only [h5]
          rw [run_bind (x := q') (w1 := w) rfl]; exact h8
        · cases hy
    · cases hp
def resRun (tmps : Array Value) (rv : ResultVar) : Sem Value := match rv with
  | .tmp t => (pure (tmps.getD t undef) : Sem Value)
  | .cell q t => do loadVar t (← asAddr (tmps.getD q undef))
theorem prepRes_cons {P : Program} {K : Nat} {rv : ResultVar} {l : List ResultVar} {ars} (hp : prepRes P K (rv :: l) = some ars) : ∃ ar l', ars = ar :: l' ∧ prepRes P K l = some l' ∧ (∀ t, rv = .tmp t → aoOf K (.tmp t) = some ar.1 ∧ ar.2 = none) ∧ (∀ q t, rv = .cell q t → ∃ s, ar.2 = some s) := by
  cases rv with
  | tmp t =>
    simp only [prepRes] at hp
    split at hp
    · rename_i ax r h1 h2; cases hp; exact ⟨_, _, rfl, h2, fun t' e => by cases e; exact ⟨h1, rfl⟩, fun _ _ e => by cases e⟩
    · cases hp
  | cell q t =>
    simp only [prepRes] at hp
    split at hp
    · rename_i ax s r h1 h2 h3; cases hp; exact ⟨_, _, rfl, h3, fun t' e => (by cases e), fun _ _ e => ⟨_, rfl⟩⟩
    · cases hp
theorem run_resVs (h : InvW c m σ a w) (htab : c.tab = E.tab) {P : Program} (hP : c.P = P) : ∀ {rvs : List ResultVar} {ars : List (AO × Option (Nat × Bool))} {ys : List V}, prepRes P c.K rvs = some ars → resVs E.tab σ ars = some ys →
    ∃ vs, (rvs.mapM (resRun a.tmps)).run P w = .ok vs w ∧ vs.length = ys.length ∧ ∀ (i : Nat) x, ys[i]? = some x → ∃ v, vs[i]? = some v ∧ RepW w (MM c.Mc m.ow m.lo) x v
  | [], ars, ys, hp, hy => by
    simp only [prepRes] at hp; cases hp
    simp only [resVs] at hy; cases hy
    exact ⟨[], rfl, rfl, fun i x hx => by simp at hx⟩
  | rv :: rvs, ars, ys, hp, hy => by
    obtain ⟨ar, l', rfl, hp', _⟩ := prepRes_cons hp
    obtain ⟨ax, q⟩ := ar
    simp only [resVs] at hy
    cases h1 : resV E.tab σ ax q with
    | none => simp [h1, consO] at hy
    | some y =>
      cases h2 : resVs E.tab σ l' with
      | none => simp [h1, h2, consO] at hy
      | some ys' =>
        simp only [h1, h2, consO] at hy; cases hy
        obtain ⟨v, h3, h4⟩ := resV_spec h htab hP hp h1
        obtain ⟨vs, h5, h6, h7⟩ := run_resVs h htab hP hp' h2
        refine ⟨v :: vs, ?_, by simp [h6], ?_⟩
        · have h3 : (resRun a.tmps rv).run P w = .ok v w := h3
          rw [List.mapM_cons, run_bind h3, run_bind h5]; rfl
        · intro i x hx
          cases i with
          | zero => simp at hx; subst hx; exact ⟨v, rfl, h4⟩
          | succ i => simpa using h7 i x (by simpa using hx)
theorem results_eq (fn : Func) (tmps : Array Value) : results fn tmps = (do let vs ← fn.results.mapM (resRun tmps); pure (if h : vs.size = 1 then vs[0] else .tuple vs)) := by
  unfold results; congr 1
theorem run_resR (h : InvW c m σ a w) (htab : c.tab = E.tab) {P : Program} (hP : c.P = P) {fn : Func} {ars : List (AO × Option (Nat × Bool))} {r : R} (hp : prepRes P c.K fn.results.toList = some ars) (hr : resR E.tab σ ars = some r) :
    ∃ v, (results fn a.tmps).run P w = .ok v w ∧ RepR w (MM c.Mc m.ow m.lo) m.ow m.lo r v := by
  have hone : ∀ {rv : ResultVar} {v : Value}, fn.results.toList = [rv] → (resRun a.tmps rv).run P w = .ok v w → (results fn a.tmps).run P w = .ok v w := by
    intro rv v hl hv
    rw [results_eq, Array.mapM_eq_mapM_toList, hl]
    simp only [List.mapM_cons, List.mapM_nil, Sem.run_bind, Sem.run_map, hv, Result.andThen_ok, Sem.run_pure]
    rfl
  have hmany : ∀ {ys : List V}, resVs E.tab σ ars = some ys → ys.length ≠ 1 → ∃ v, (results fn a.tmps).run P w = .ok v w ∧ RepR w (MM c.Mc m.ow m.lo) m.ow m.lo (.tup ys) v := by
    intro ys hy hn
    obtain ⟨vs, h1, h2, h3⟩ := run_resVs h htab hP hp hy
    refine ⟨.tuple vs.toArray, ?_, vs.toArray, rfl, by simp [h2], fun i x hx => by simpa using h3 i x hx⟩
    rw [results_eq, Array.mapM_eq_mapM_toList]
    simp only [Sem.run_bind, Sem.run_map, h1, Result.andThen_ok]
    have : ¬ vs.toArray.size = 1 := by simp; omega
    rw [dif_neg this]; rfl
  cases hl : fn.results.toList with
  | nil =>
    rw [hl] at hp; simp only [prepRes] at hp; cases hp
    simp only [resR] at hr; cases hr
    exact hmany rfl (by simp)
  | cons rv rvs =>
    have hp0 := hp
    rw [hl] at hp
    obtain ⟨ar, l', rfl, hp', ht, hcell⟩ := prepRes_cons hp
    obtain ⟨ax, q⟩ := ar
    cases rvs with
    | nil =>
      simp only [prepRes] at hp'; cases hp'
      cases q with
      | none =>
        cases rv with
        | cell q t => obtain ⟨s, hs⟩ := hcell q t rfl; cases hs
        | tmp t =>
          obtain ⟨h1, _⟩ := ht t rfl
          have hR : (resRun a.tmps (.tmp t)).run P w = .ok (a.tmps.getD t undef) w := rfl
          refine ⟨_, hone hl hR, ?_⟩
          simp only [resR] at hr
          cases hev : σ.ev ax with
          | none => simp [hev, rD] at hr
          | some d =>
            have hrd := h.rd h1 hev
            have e1 : a.eval (.tmp t) = a.tmps.getD t undef := rfl
            rw [e1] at hrd
            rw [hev] at hr
            cases d <;> simp only [rD] at hr <;> try (cases hr; done)
            · cases hr; exact hrd
            · cases hr; exact ⟨hrd.1, _, hrd.2⟩
      | some s =>
        simp only [resR] at hr
        cases hv : resV E.tab σ ax (some s) with
        | none => simp [hv, rV] at hr
        | some y =>
          simp only [hv, rV] at hr; cases hr
          obtain ⟨v, h3, h4⟩ := resV_spec h htab hP hp hv
          exact ⟨v, hone hl h3, h4⟩
    | cons rv2 rvs =>
      obtain ⟨ar2, l2, rfl, hp2, _⟩ := prepRes_cons hp'
      simp only [resR] at hr
      cases hv : resVs E.tab σ ((ax, q) :: ar2 :: l2) with
      | none => simp [hv, rT] at hr
      | some ys =>
        simp only [hv, rT] at hr; cases hr
        refine hmany hv ?_
        simp only [resVs] at hv
        cases e1 : resV E.tab σ ax q with
        | none => simp [e1, consO] at hv
        | some y1 => cases e2 : resV E.tab σ ar2.1 ar2.2 with
          | none => simp [e1, e2, consO] at hv
          | some y2 => cases e3 : resVs E.tab σ l2 with
            | none => simp [e1, e2, e3, consO] at hv
            | some y3 => simp only [e1, e2, e3, consO] at hv; cases hv; simp
end
theorem initV_get {K : Nat} {vs : List V} {t : Nat} {d : D} (h : (initV K vs)[t]? = some (some d)) : ∃ x, vs[t]? = some x ∧ d = .v x := by
  unfold initV at h
  by_cases ht : t < vs.length
  · rw [List.getElem?_append_left (by simpa using ht), List.getElem?_map] at h
    obtain ⟨x, h1, h2⟩ := Option.map_eq_some_iff.1 h
    cases h2; exact ⟨x, h1, rfl⟩
  · rw [List.getElem?_append_right (by simpa using ht)] at h
    obtain ⟨h1, h2⟩ := List.getElem?_eq_some_iff.1 h
    simp at h2
theorem start_inv {E : Env} {Mc : Nat → Nat → Prop} {B : Nat → Bool} {w : World} {args : Array Value} {G : List (Nat × V)} {vs : List V} (hs : Start E Mc B w G) (ha : args.size = vs.length)
    (hv : ∀ (i : Nat) x, vs[i]? = some x → ∃ v, args[i]? = some v ∧ RepW w (MB Mc B) x v) {K N : Nat} (hK : vs.length ≤ K) (hN : K ≤ N) :
    InvW { P := E.P, N := N, K := K, Mc := Mc, tab := E.tab, w0 := w, B0 := fun b => B b = true, G0 := G } { lam := [], ow := owB B, lo := fun _ => 0 } ⟨initV K vs, [], [], G⟩
      { tmps := args ++ Array.replicate (N - args.size) undef, defers := [] } w where
  defers := rfl
  size := by simp; omega
  os := rfl
  tape := rfl
  output := rfl
  grown := Nat.le_refl _
  old := fun _ _ _ => rfl
  oldB := fun _ _ _ hs => ⟨hs, fun _ => rfl⟩
  mine := fun b hb => by
    have hB : B b = true := by
      cases e : B b with
      | true => rfl
      | false => simp [owB, e] at hb
    exact ⟨hs.blk b hB, .inr hB, fun o ho => by have := hs.sep b o ho; rw [hB] at this; cases this⟩
  callers := hs.callers
  lamL := rfl
  holes := fun k hk => by simp at hk
  boxes := fun k r b hk _ => by simp at hk
  objs := fun id x hx => by
    obtain ⟨h1, h2⟩ := hs.objs id x hx
    exact ⟨h1, by simp [owB, h2], rfl⟩
  blks := fun b hb => by simp only [owB]; rw [if_pos hb]
  objlo := fun _ _ => rfl
  objs0 := fun id r hr => ⟨r, hr, V.same_refl _⟩
  tabs := hs.tabs
  vsN := by simp [initV]; omega
  vsK := by simp [initV]; omega
  envV := fun t d hd => by
    obtain ⟨x, h1, rfl⟩ := initV_get hd
    obtain ⟨v, h2, h3⟩ := hv t x h1
    have hlt := (Array.getElem?_eq_some_iff.1 h2).1
    have : (args ++ Array.replicate (N - args.size) undef).getD t undef = v := by
      rw [Array.getD_eq_getD_getElem?, Array.getElem?_append_left hlt, h2]; rfl
    simp only [this]; exact h3
  envT := fun t d hd => by simp [look] at hd
theorem Ret_of_W {E : Env} {C : Spec} (hC : C.Sound E) (hdet : C.Det) {g K : Nat} {ks : List (List Nat)} {es : List Nat} {f : PF} (hp : prepF E.P g K ks es = some f) {vs : List V} {G : List (Nat × V)} {Q : R → List (Nat × V) → Prop} (hn : vs.length = f.n)
    (hW : Wf E C f vs G Q) : Ret E g vs G Q := by
  intro Mc B w args hs ha hv
  unfold prepF at hp
  split at hp
  · rename_i fn hf
    split at hp
    · rename_i code hb
      split at hp
      · rename_i pb pr hc hr
        split at hp
        · rename_i hcond; cases hp
          simp only at hn hW
          obtain ⟨k1, k2, k3⟩ := hcond
          have hi := start_inv hs ha hv (K := K) (N := fn.ntmps) (by omega) k2
          refine calls_of_wp hf hb ?_
          refine W_sound (E := E) (c := { P := E.P, N := fn.ntmps, K := K, Mc := Mc, tab := E.tab, w0 := w, B0 := fun b => B b = true, G0 := G }) hC hdet rfl rfl code ks pb [] hc _ _ _ _ _ _ hi hW ?_
          intro e σ' m' a' w' h' hq
          have hres : resQ Q σ'.G (resR E.tab σ' pr) → a'.defers = [] ∧ ∃ v, (results fn a'.tmps).run E.P w' = .ok v w' ∧ ∃ v' r G' m', (Ending.returned v) = .returned v' ∧ Q r G' ∧ Ended Mc B w G m' w' G' ∧ RepR w' (MM Mc m'.ow m'.lo) m'.ow m'.lo r v' := by
            intro hq
            cases hrr : resR E.tab σ' pr with
            | none => rw [hrr] at hq; exact hq.elim
            | some r =>
              rw [hrr] at hq
              obtain ⟨v, h1, h2⟩ := run_resR h' rfl rfl hr hrr
              refine ⟨h'.defers, v, h1, v, r, σ'.G, m', rfl, hq, ?_, h2⟩
              exact { os := h'.os, tape := h'.tape, output := h'.output, grown := h'.grown
                      old := fun b hb hB => h'.old b hb (by simp [hB])
                      oldB := fun b s hB hs => h'.oldB b s hB hs
                      mine := fun b hb => ⟨(h'.mine b hb).1, (h'.mine b hb).2.1⟩
                      blks := h'.blks, objlo := h'.objlo
                      objs := fun id x hx => ⟨(h'.objs id x hx).1, (h'.objs id x hx).2.1⟩
                      objs0 := h'.objs0 }
          cases e with
          | normal => exact hres hq
          | ret => exact hres hq
          | exit id => exact hq.elim
        · cases hp
      · cases hp
    · cases hp
  · cases hp
end Go.Abs
namespace Go.Abs
open Go Go.RowKit
set_option linter.unusedVariables false
set_option linter.unusedSimpArgs false
def TyL (f : TypeId → V → Prop) : List Field → List V → Prop
  | [], l => l = []
  | fd :: fs, l => ∃ x l', l = x :: l' ∧ f fd.type x ∧ TyL f fs l'
/-- A plain value of a type. -/
def TyV (P : Program) : Nat → TypeId → V → Prop
  | 0, _, _ => False
  | n + 1, t, x => match P.underlying t with
    | some .bool => ∃ b, x = .bool b
    | some (.int k) => ∃ i, x = .int k i ∧ (Lit.int k i).wf = true
    | some .string => ∃ s, x = .str s ∧ s.size ≤ maxLen
    | some (.slice e) => match intK P e with
      | some k => ∃ xs, x = .sli k xs ∧ (∀ i ∈ xs, (Lit.int k i).wf = true) ∧ xs.length ≤ maxLen
      | none => ∃ l, x = .sle (P.cellsOf e) l ∧ (∀ y ∈ l, TyV P n e y) ∧ l.length ≤ maxLen
    | some (.struct fs) => ∃ l, x = .agg l ∧ TyL (TyV P n) fs.toList l
    | some (.array m e) => match intK P e with
      | some k => ∃ xs, x = .arr k m xs ∧ xs.length = m ∧ ∀ i ∈ xs, (Lit.int k i).wf = true
      | none => ∃ l, x = .agg l ∧ l.length = m ∧ ∀ y ∈ l, TyV P n e y
    | _ => False
def offsOk (P : Program) : Nat → List Field → Nat → Bool
  | o, [], n => o == n
  | o, f :: l, n => f.offset == o && offsOk P (o + P.cellsOf f.type) l n
/-- Is the type one of plain data? -/
def TyOk (P : Program) : Nat → TypeId → Bool
  | 0, _ => false
  | n + 1, t => match P.underlying t with
    | some .bool => true
    | some (.int _) => true
    | some .string => true
    | some (.slice e) => TyOk P n e && ((intK P e).isNone || P.cellsOf e == 1)
    | some (.struct fs) => fs.toList.all (fun f => TyOk P n f.type) && offsOk P 0 fs.toList (P.cellsOf t)
    | some (.array m e) => TyOk P n e && P.cellsOf t == m * P.cellsOf e && ((intK P e).isNone || P.cellsOf e == 1)
    | _ => false
section
variable {H : Type} {enc : TypeId × Value → H} {P : Program} {w : World} {sp : Nat → Bool} {held : Bool} {M : Nat → Nat → Prop}
theorem intK_spec {e : TypeId} {k : IntKind} (h : intK P e = some k) : P.underlying e = some (.int k) := by
  unfold intK at h; split at h
  · rename_i k' e'; cases h; exact e'
  · cases h
theorem cells_reads (hM : ∀ b o, ¬ M b o) {a : Addr} {n : Nat} {cs : List Value} (h : w.cells? 0 a n = some cs) : Reads w M a cs ∧ cs.length = n := by
  unfold World.cells? at h
  rw [if_pos (Nat.zero_le _)] at h
  have hl := mapM_some_length h
  refine ⟨fun i v hv => ⟨?_, hM _ _⟩, by simpa using hl⟩
  have hlt := (List.getElem?_eq_some_iff.1 hv).1
  rw [hl] at hlt
  have hlt : i < n := by simpa using hlt
  have := mapM_some_get h i i (by simp [hlt])
  rw [this, hv]
theorem RepE_of (hM : ∀ b o, ¬ M b o) {f : V → Prop} {sz : Nat} : ∀ {n : Nat} {a : Addr}, (∀ i, i < n → ∃ cs x, w.cells? 0 (a.add (i * sz)) sz = some cs ∧ f x ∧ RepV w M x cs) → ∃ l : List V, l.length = n ∧ (∀ y ∈ l, f y) ∧ RepE w M sz l a
  | 0, a, h => ⟨[], rfl, fun y hy => by simp at hy, trivial⟩
  | n + 1, a, h => by
    obtain ⟨cs, x, h1, h2, h3⟩ := h 0 (by omega)
    have h0 : a.add (0 * sz) = a := by simp [Addr.add]
    rw [h0] at h1
    obtain ⟨h4, h5⟩ := cells_reads hM h1
    obtain ⟨l, e1, e2, e3⟩ := RepE_of hM (n := n) (a := a.add sz) (fun i hi => by
      obtain ⟨cs, x, g1, g2, g3⟩ := h (i + 1) (by omega)
      refine ⟨cs, x, ?_, g2, g3⟩
      rw [Addr.add_add, show sz + i * sz = (i + 1) * sz by rw [Nat.add_mul]; omega]; exact g1)
    refine ⟨x :: l, by simp [e1], fun y hy => ?_, cs, h3, h5, h4, e3⟩
    rcases List.mem_cons.1 hy with rfl | hy
    · exact h2
    · exact e2 y hy
theorem RepL_of {f : TypeId → V → Prop} {cs : List Value} : ∀ {fs : List Field} {o : Nat}, offsOk P o fs cs.length = true → o ≤ cs.length →
    (∀ fd ∈ fs, ∃ x, f fd.type x ∧ RepV w M x ((cs.drop fd.offset).take (P.cellsOf fd.type)) ) → ∃ l, TyL f fs l ∧ RepL w M l (cs.drop o)
  | [], o, h, ho, hf => by
    simp only [offsOk, beq_iff_eq] at h
    exact ⟨[], rfl, by simp [RepL, h]⟩
  | fd :: fs, o, h, ho, hf => by
    simp only [offsOk, Bool.and_eq_true, beq_iff_eq] at h
    obtain ⟨x, h1, h2⟩ := hf fd (List.mem_cons_self ..)
    have hle : ∀ {fs : List Field} {o n : Nat}, offsOk P o fs n = true → o ≤ n := by
      intro fs
      induction fs with
      | nil => intro o n h; simp only [offsOk, beq_iff_eq] at h; omega
      | cons g gs ih => intro o n h; simp only [offsOk, Bool.and_eq_true, beq_iff_eq] at h; have := ih h.2; omega
    have h3 := hle h.2
    obtain ⟨l, h4, h5⟩ := RepL_of h.2 h3 (fun g hg => hf g (List.mem_cons_of_mem _ hg))
    rw [h.1] at h2
    refine ⟨x :: l, ⟨x, l, rfl, h1, h4⟩, (cs.drop o).take (P.cellsOf fd.type), cs.drop (o + P.cellsOf fd.type), ?_, h2, h5⟩
    rw [← List.drop_drop, List.take_append_drop]
theorem RepA_of {f : V → Prop} {sz : Nat} : ∀ {n : Nat} {cs : List Value}, cs.length = n * sz → (∀ i, i < n → ∃ x, f x ∧ RepV w M x ((cs.drop (i * sz)).take sz)) → ∃ l : List V, l.length = n ∧ (∀ y ∈ l, f y) ∧ RepL w M l cs
  | 0, cs, h, hf => by
    have : cs = [] := List.length_eq_zero_iff.1 (by omega)
    subst this; exact ⟨[], rfl, fun y hy => by simp at hy, rfl⟩
  | n + 1, cs, h, hf => by
    obtain ⟨x, h1, h2⟩ := hf 0 (by omega)
    simp only [Nat.zero_mul, List.drop_zero] at h2
    obtain ⟨l, e1, e2, e3⟩ := RepA_of (n := n) (sz := sz) (cs := cs.drop sz) (by simp [h, Nat.add_mul]) (fun i hi => by
      obtain ⟨y, g1, g2⟩ := hf (i + 1) (by omega)
      refine ⟨y, g1, ?_⟩
      rw [List.drop_drop, show sz + i * sz = (i + 1) * sz by rw [Nat.add_mul]; omega]; exact g2)
    refine ⟨x :: l, by simp [e1], fun y hy => ?_, cs.take sz, cs.drop sz, by simp, h2, e3⟩
    rcases List.mem_cons.1 hy with rfl | hy
    · exact h1
    · exact e2 y hy
theorem ints_of {k : IntKind} {l : List V} : ∀ {cs : List Value}, (∀ y ∈ l, ∃ i, y = .int k i ∧ (Lit.int k i).wf = true) → RepL w M l cs → ∃ xs : List Int, xs.length = l.length ∧ (∀ i ∈ xs, (Lit.int k i).wf = true) ∧ cs = xs.map (.int k) := by
  induction l with
  | nil => intro cs _ h; exact ⟨[], rfl, fun i hi => by simp at hi, h⟩
  | cons y l ih =>
    intro cs hy h
    obtain ⟨i, rfl, hw⟩ := hy y (List.mem_cons_self ..)
    obtain ⟨c1, c2, rfl, h1, h2⟩ := h
    simp only [RepV] at h1; subst h1
    obtain ⟨xs, e1, e2, rfl⟩ := ih (fun z hz => hy z (List.mem_cons_of_mem _ hz)) h2
    refine ⟨i :: xs, by simp [e1], fun j hj => ?_, rfl⟩
    rcases List.mem_cons.1 hj with rfl | hj
    · exact hw
    · exact e2 j hj
theorem RepE_ints {k : IntKind} : ∀ {l : List V} {a : Addr}, (∀ y ∈ l, ∃ i, y = .int k i ∧ (Lit.int k i).wf = true) → RepE w M 1 l a → ∃ xs : List Int, xs.length = l.length ∧ (∀ i ∈ xs, (Lit.int k i).wf = true) ∧ Reads w M a (xs.map (.int k))
  | [], a, hy, h => ⟨[], rfl, fun i hi => by simp at hi, fun i v hv => by simp at hv⟩
  | y :: l, a, hy, h => by
    obtain ⟨i, rfl, hw⟩ := hy y (List.mem_cons_self ..)
    obtain ⟨c, h1, h2, h3, h4⟩ := h
    simp only [RepV] at h1; subst h1
    obtain ⟨xs, e1, e2, e3⟩ := RepE_ints (fun z hz => hy z (List.mem_cons_of_mem _ hz)) h4
    refine ⟨i :: xs, by simp [e1], fun j hj => ?_, fun j v hv => ?_⟩
    · rcases List.mem_cons.1 hj with rfl | hj
      · exact hw
      · exact e2 j hj
    · cases j with
      | zero => exact h3 0 v (by simpa using hv)
      | succ j =>
        have := e3 j v (by simpa using hv)
        rw [Addr.add_add, Addr.add_block, Addr.add_off, show 1 + j = j + 1 by omega] at this
        rw [show a.off + (j + 1) = a.off + 1 + j by omega]
        exact this
theorem open_V (hM : ∀ b o, ¬ M b o) : ∀ (n : Nat) {fuel : Nat} {t : TypeId} {cs : List Value} {x : DataW H × List MemPlace}, DataW.trod enc P w 0 sp held fuel t cs = some x → TyOk P n t = true → ∃ y, TyV P n t y ∧ RepV w M y cs
  | 0, _, _, _, _, _, hok => by cases hok
  | n + 1, fuel, t, cs, x, h, hok => by
    simp only [TyOk] at hok
    have int : ∀ {k : IntKind} {e : TypeId}, intK P e = some k → ∀ y, TyV P n e y → ∃ i, y = .int k i ∧ (Lit.int k i).wf = true := by
      intro k e hk y hy
      cases n with
      | zero => cases hy
      | succ n => simp only [TyV, intK_spec hk] at hy; exact hy
    split at hok
    · rename_i hu
      obtain ⟨b, rfl, _⟩ := DataW.trod_bool hu h
      exact ⟨.bool b, by simp only [TyV, hu]; exact ⟨b, rfl⟩, rfl⟩
    · rename_i k hu
      obtain ⟨i, rfl, _, hw⟩ := DataW.trod_int hu h
      exact ⟨.int k i, by simp only [TyV, hu]; exact ⟨i, rfl, hw⟩, rfl⟩
    · rename_i hu
      obtain ⟨s, rfl, _, hw⟩ := DataW.trod_string hu h
      exact ⟨.str s, by simp only [TyV, hu]; exact ⟨s, rfl, hw⟩, rfl⟩
    · rename_i e hu
      simp only [Bool.and_eq_true, Bool.or_eq_true, beq_iff_eq] at hok
      obtain ⟨hoke, hsz⟩ := hok
      rcases DataW.trod_slice hu h with ⟨rfl, _⟩ | ⟨a, len, cap, elems, rest, m, _, rfl, _, _, hl, hc, hlen, hel, _, _⟩
      · cases hk : intK P e with
        | some k => exact ⟨.sli k [], by simp only [TyV, hu, hk]; exact ⟨[], rfl, fun i hi => by simp at hi, by simp⟩, none, 0, rfl, by simp, fun _ => rfl, fun p hp => by cases hp⟩
        | none => exact ⟨.sle (P.cellsOf e) [], by simp only [TyV, hu, hk]; exact ⟨[], rfl, fun i hi => by simp at hi, by simp⟩, none, 0, rfl, by simp, fun _ => rfl, fun p hp => by cases hp⟩
      · have key : ∀ i, i < len → ∃ cs x, w.cells? 0 (a.add (i * P.cellsOf e)) (P.cellsOf e) = some cs ∧ TyV P n e x ∧ RepV w M x cs := by
          intro i hi
          have h1 := hel i hi
          rw [List.getElem?_eq_getElem (by omega)] at h1
          obtain ⟨cs', h2, h3⟩ := Option.bind_eq_some_iff.1 h1
          obtain ⟨y, h4, h5⟩ := open_V hM n h3 hoke
          exact ⟨cs', y, h2, h4, h5⟩
        obtain ⟨l, e1, e2, e3⟩ := RepE_of hM key
        cases hk : intK P e with
        | some k =>
          have hs1 : P.cellsOf e = 1 := by rcases hsz with h | h
                                           · rw [hk] at h; cases h
                                           · exact h
          rw [hs1] at e3
          obtain ⟨xs, g1, g2, g3⟩ := RepE_ints (fun y hy => int hk y (e2 y hy)) e3
          refine ⟨.sli k xs, by simp only [TyV, hu, hk]; exact ⟨xs, rfl, g2, by omega⟩, some a, cap, by rw [g1, e1], by omega, (fun h => by cases h), fun p hp => by cases hp; exact g3⟩
        | none =>
          refine ⟨.sle (P.cellsOf e) l, by simp only [TyV, hu, hk]; exact ⟨l, rfl, e2, by omega⟩, some a, cap, by rw [e1], by omega, fun h => (by cases h), fun p hp => by cases hp; exact e3⟩
    · rename_i fs hu
      simp only [Bool.and_eq_true, List.all_eq_true] at hok
      obtain ⟨xs, m, _, _, hcl, hxl, hf⟩ := DataW.trod_struct hu h
      rw [← hcl] at hok
      obtain ⟨l, e1, e2⟩ := RepL_of (P := P) (f := TyV P n) (M := M) (w := w) hok.2 (Nat.zero_le _) (fun fd hfd => by
        obtain ⟨i, hi⟩ := List.mem_iff_getElem?.1 hfd
        have hi' : fs[i]? = some fd := by rw [← Array.getElem?_toList]; exact hi
        have h1 := hf i fd hi'
        have hlt := (Array.getElem?_eq_some_iff.1 hi').1
        rw [List.getElem?_eq_getElem (by omega)] at h1
        exact open_V hM n h1 (hok.1 fd hfd))
      exact ⟨.agg l, by simp only [TyV, hu]; exact ⟨l, rfl, e1⟩, by simpa [RepV] using e2⟩
    · rename_i m e hu
      simp only [Bool.and_eq_true, Bool.or_eq_true, beq_iff_eq] at hok
      obtain ⟨⟨hoke, hct⟩, hsz⟩ := hok
      obtain ⟨xs, q, _, _, hcl, hxl, hf⟩ := DataW.trod_array hu h
      obtain ⟨l, e1, e2, e3⟩ := RepA_of (n := m) (sz := P.cellsOf e) (f := TyV P n e) (M := M) (w := w) (by rw [hcl, hct]) (fun i hi => by
        have h1 := hf i hi
        rw [List.getElem?_eq_getElem (by omega)] at h1
        exact open_V hM n h1 hoke)
      cases hk : intK P e with
      | some k =>
        obtain ⟨xs, g1, g2, rfl⟩ := ints_of (fun y hy => int hk y (e2 y hy)) e3
        exact ⟨.arr k m xs, by simp only [TyV, hu, hk]; exact ⟨xs, rfl, by omega, g2⟩, by simp only [RepV]; exact ⟨by omega, trivial⟩⟩
      | none => exact ⟨.agg l, by simp only [TyV, hu, hk]; exact ⟨l, rfl, e1, e2⟩, by simpa [RepV] using e3⟩
    · cases hok
end
end Go.Abs
namespace Go.Abs
open Go Go.RowKit Go.ChangeShapes Go.WideShapes Go.ChangeAt
set_option linter.unusedVariables false
set_option linter.unusedSimpArgs false
def TyAll (P : Program) (n : Nat) : List TypeId → List V → Prop
  | [], l => l = []
  | t :: ts, l => ∃ x l', l = x :: l' ∧ TyV P n t x ∧ TyAll P n ts l'
section
variable {H : Type} {enc : TypeId × Value → H} {P : Program} {w : World} {sp : Nat → Bool} {held : Bool} {M : Nat → Nat → Prop}
theorem open_W (hM : ∀ b o, ¬ M b o) {n : Nat} {r : Reach} {b0 : Nat} {t : TypeId} {v : Value} {d : DataW H} {ps : List MemPlace} (hv : Value.okWide P w r b0 t v) (h : DataW.Trod enc P w 0 sp held t v d ps) (hok : TyOk P n t = true) :
    ∃ y, TyV P n t y ∧ RepW w M y v := by
  obtain ⟨fuel, hf⟩ := h
  obtain ⟨y, h1, h2⟩ := open_V (M := M) hM n hf hok
  refine ⟨y, h1, ?_⟩
  cases n with
  | zero => cases hok
  | succ n =>
    simp only [TyV] at h1
    have plain : y.isAgg = false → v.cells.toList = [v] → RepW w M y v := by
      intro ha hc
      unfold RepW; rw [if_neg (by rw [ha]; exact Bool.false_ne_true), ← hc]; exact h2
    have agg : y.isAgg = true → (∃ cs, v = .agg cs) → RepW w M y v := by
      rintro ha ⟨cs, rfl⟩
      unfold RepW; rw [if_pos ha]; exact ⟨cs, rfl, h2⟩
    split at h1
    · rename_i hu
      obtain ⟨b, rfl⟩ := h1
      obtain ⟨b', rfl⟩ := okWide_bool hu hv
      exact plain rfl rfl
    · rename_i k hu
      obtain ⟨i, rfl, _⟩ := h1
      obtain ⟨i', rfl⟩ := okWide_int hu hv
      exact plain rfl rfl
    · rename_i hu
      obtain ⟨b, rfl, _⟩ := h1
      obtain ⟨b', rfl⟩ := okWide_string hu hv
      exact plain rfl rfl
    · rename_i e hu
      obtain ⟨a, len, cap, rfl⟩ := okWide_slice hu hv
      split at h1
      · obtain ⟨xs, rfl, _⟩ := h1; exact plain rfl rfl
      · obtain ⟨xs, rfl, _⟩ := h1; exact plain rfl rfl
    · rename_i fs hu
      obtain ⟨l, rfl, _⟩ := h1
      obtain ⟨cs, rfl, _⟩ := okWide_struct hu hv
      exact agg rfl ⟨cs, rfl⟩
    · rename_i m e hu
      have : ∃ cs, v = .agg cs := by
        unfold Value.okWide at hv; rw [hu] at hv
        obtain ⟨cs, rfl, _⟩ := hv; exact ⟨cs, rfl⟩
      split at h1
      · obtain ⟨xs, rfl, _⟩ := h1; exact agg rfl this
      · obtain ⟨xs, rfl, _⟩ := h1; exact agg rfl this
    · exact h1.elim
theorem open_all (hM : ∀ b o, ¬ M b o) {n : Nat} {r : Reach} {b0 : Nat} : ∀ {ts : List TypeId} {vs : List Value} {ds : List (DataW H)} {ps : List MemPlace}, (∀ (j : Nat) t v, ts[j]? = some t → vs[j]? = some v → Value.okWide P w r b0 t v) →
    DataW.TrodAll enc P w 0 sp held ts vs ds ps → (∀ t ∈ ts, TyOk P n t = true) → ∃ xs, TyAll P n ts xs ∧ vs.length = xs.length ∧ ds.length = ts.length ∧ ∀ (i : Nat) x, xs[i]? = some x → ∃ v, vs[i]? = some v ∧ RepW w M x v
  | [], vs, ds, ps, hv, h, hok => by
    obtain ⟨rfl, rfl, rfl⟩ := trodAll_nil h
    exact ⟨[], rfl, rfl, rfl, fun i x hx => by simp at hx⟩
  | t :: ts, vs, ds, ps, hv, h, hok => by
    obtain ⟨v, vs', d, ds', p, q, rfl, rfl, rfl, h1, h2⟩ := trodAll_cons h
    obtain ⟨y, h3, h4⟩ := open_W (M := M) hM (hv 0 t v rfl rfl) h1 (hok t (List.mem_cons_self ..))
    obtain ⟨xs, h5, h6, h7, h8⟩ := open_all hM (fun j t v h1 h2 => hv (j + 1) t v h1 h2) h2 (fun t ht => hok t (List.mem_cons_of_mem _ ht))
    refine ⟨y :: xs, ⟨y, xs, rfl, h3, h5⟩, by simp [h6], by simp [h7], fun i x hx => ?_⟩
    cases i with
    | zero => simp at hx; subst hx; exact ⟨v, rfl, h4⟩
    | succ i => exact h8 i x (by simpa using hx)
theorem stay_all (hl : laidOutB P = true) {W W' : World} (hb : Below W.heap.size W W') : ∀ {ts : List TypeId} {vs : List Value} {ds : List (DataW H)} {ps : List MemPlace}, (∀ t ∈ ts, P.readableRec t = true ∧ t < P.types.size) →
    DataW.TrodAll enc P W 0 (fun _ => true) true ts vs ds ps → DataW.TrodAll enc P W' 0 (fun b => decide (b < W.heap.size)) true ts vs ds ps
  | [], vs, ds, ps, hr, h => by
    obtain ⟨rfl, rfl, rfl⟩ := trodAll_nil h
    exact trodAll_mk0
  | t :: ts, vs, ds, ps, hr, h => by
    obtain ⟨v, vs', d, ds', p, q, rfl, rfl, rfl, h1, h2⟩ := trodAll_cons h
    have lt : ∀ x ∈ p, x.block < W.heap.size := by obtain ⟨m, hm⟩ := h1; exact DataW.trod_lt m _ _ _ hm
    have := hr t (List.mem_cons_self ..)
    exact trodAll_cons_mk (Below.trod hl this.1 this.2 h1 hb lt) (stay_all hl hb (fun t ht => hr t (List.mem_cons_of_mem _ ht)) h2)
end
theorem noM (b o : Nat) : ¬ MB (fun _ _ => False) (fun _ => false) b o := by
  rintro (h | ⟨h, _⟩)
  · exact h
  · simp [owB] at h
/-- What the statement asks of a law's function follows from what the function hands back over plain values. -/
theorem law_lifted {C : Checked} {f : FuncId} {fn : Func} {s : ChangeSpec} {os : Os} {H : Type} {enc : TypeId × Value → H} {conds : List PathCond} {tb : TypeId} {n : Nat} {tab : List (Nat × V)}
    (own : ownKnob C.prog.godebug = none) (started : os.Started) (noInit : C.prog.inits.idxOf? f = none) (hfn : C.prog.funcs[f]? = some fn)
    (hwit : ∃ (w : World) (tape : Tape) (i : Input), w.os = os ∧ (w.forCall tape i).Shaped C.prog ∧ i.vars = [] ∧ Input.okWide C.prog (w.forCall tape i) .any w.heap.size f i ∧
      s.pre6 enc C.prog fn conds false (w.forCall tape i).memory i.args ∧ ({} : Assume).holds C.prog (lone (Frame.enter C.prog f i.args .normal) [] (w.forCall tape i)))
    (hl : laidOutB C.prog = true) (hvars : s.vars = []) (hres : fn.resultTypes = #[tb]) (hb : C.prog.underlying tb = some .bool)
    (hspec : ∀ (H : Type) (ds : List (DataW H)), ds.length = fn.params.toList.length → s.fn H ds = { results := [.lit (.bool true)], args := ds })
    (hrow : ∀ t ∈ fn.params.toList, C.prog.readableRec t = true ∧ t < C.prog.types.size) (hok : ∀ t ∈ fn.params.toList, TyOk C.prog n t = true)
    (htab : ∀ W : World, ∀ g x, look tab g = some x → ∃ cs, Reads W (MB (fun _ _ => False) (fun _ => false)) ⟨g, 0, none⟩ cs ∧ RepV W (MB (fun _ _ => False) (fun _ => false)) x cs)
    (hlaw : ∀ vs : List V, TyAll C.prog n fn.params.toList vs → Ret ⟨C.prog, tab⟩ f vs [] (fun r _ => r = .v (.bool true))) :
    ReturnsInHanded {} C os f .any (s.pre6 enc C.prog fn conds false) (s.post enc C.prog fn false true false false) := by
  refine returnsInHanded_of_change own started noInit hfn hwit ?_
  intro W base args ds gs before hval hW hcnd _
  have hW' := hW
  obtain ⟨p, q, hA, hV, rfl, hfz, hnd⟩ := hW
  rw [hvars] at hV
  obtain ⟨rfl, rfl⟩ := trodVars_none hV
  obtain ⟨xs, h1, h2, h3, h4⟩ := open_all (M := MB (fun _ _ => False) (fun _ => false)) noM (n := n) (fun j t v e1 e2 => hval j t v (by rw [← Array.getElem?_toList]; exact e1) (by rw [← Array.getElem?_toList]; exact e2)) hA hok
  have hR := hlaw xs h1 (fun _ _ => False) (fun _ => false) W args
    { callers := fun _ _ h => h.elim, sep := fun _ _ _ => rfl, blk := fun _ h => by simp at h, objs := fun id x h => by simp [look] at h, tabs := htab W } (by simpa using h2)
    (fun i x hx => by
      obtain ⟨v, e1, e2⟩ := h4 i x hx
      exact ⟨v, by rw [← Array.getElem?_toList]; exact e1, e2⟩)
  refine Calls.mono hR ?_
  rintro e W' ⟨v, r, G', m', rfl, rfl, he, hrep⟩
  have hv : v = .bool true := by
    have : RepW W' _ (.bool true) v := hrep
    simp only [RepW, V.isAgg, Bool.false_eq_true, if_false, RepV, List.cons.injEq, and_true] at this
    exact this
  subst hv
  have bel : Below W.heap.size W W' := ⟨he.os, he.tape, he.output, he.grown, fun k hk => he.old k hk rfl⟩
  refine ⟨_, rfl, ds, [], p ++ [], [], p, [], hW', ?_, ?_, ?_, bel.frame _, fun h => (by cases h)⟩
  · rw [List.append_nil, hspec H ds h3, hres]; exact trodAll_mk1 (shut_bool hb _)
  · rw [List.append_nil, hspec H ds h3]; exact stay_all hl bel hrow hA
  · rw [hvars, List.append_nil, hspec H ds h3]; exact rfl
end Go.Abs
namespace Go.Abs
open Go Go.RowKit
set_option linter.unusedVariables false
set_option linter.unusedSimpArgs false
abbrev Spec1 := List V → List (Nat × V) → (R → List (Nat × V) → Prop) → Prop
def Spec1.Det (s : Spec1) : Prop := ∀ vs G (Q : R → Prop), s vs G (fun r G' => G' = G ∧ Q r) → ∃ r, Q r ∧ ∀ Q' : R → List (Nat × V) → Prop, Q' r G → s vs G Q'
def runO (o : Option Spec1) (vs : List V) (G : List (Nat × V)) (Q : R → List (Nat × V) → Prop) : Prop := match o with
  | some s => s vs G Q
  | none => False
def specOf (l : List (Nat × Spec1)) : Spec := fun g vs G Q => runO (look l g) vs G Q
theorem runO_some {s vs G Q} : runO (some s) vs G Q = s vs G Q := rfl
theorem callK_of {l g vs K σ t} : callK (specOf l) g vs K σ t = runO (look l g) vs σ.G (fun r G' => K (({ σ with G := G' } : St).put t r.D)) := rfl
theorem callD_of {l g vs K σ t} : callD (specOf l) g vs K σ t = runO (look l g) vs σ.G (fun r G' => G' = σ.G ∧ K (σ.put t r.D)) := rfl
/-- A table whose every function hands back what it says. -/
structure Good (E : Env) (l : List (Nat × Spec1)) : Prop where
  snd : (specOf l).Sound E
  det : (specOf l).Det
theorem Good.nil (E : Env) : Good E [] := ⟨fun _ _ _ _ h => False.elim h, fun _ _ _ _ h => False.elim h⟩
theorem Good.cons {E : Env} {l : List (Nat × Spec1)} {g : Nat} {s : Spec1} (h : Good E l) (hd : s.Det) (hs : ∀ vs G Q, s vs G Q → Ret E g vs G Q) : Good E ((g, s) :: l) := by
  refine ⟨fun g' vs G Q hq => ?_, fun g' vs G Q hq => ?_⟩
  · have hq : runO (look ((g, s) :: l) g') vs G Q := hq
    rw [look_cons] at hq
    by_cases e : g' = g
    · subst e; rw [if_pos rfl] at hq; exact hs vs G Q hq
    · rw [if_neg e] at hq; exact h.snd g' vs G Q hq
  · have hq : runO (look ((g, s) :: l) g') vs G (fun r G' => G' = G ∧ Q r) := hq
    rw [look_cons] at hq
    by_cases e : g' = g
    · subst e; rw [if_pos rfl] at hq
      obtain ⟨r, h1, h2⟩ := hd vs G Q hq
      refine ⟨r, h1, fun Q' hQ' => ?_⟩
      show runO (look ((g', s) :: l) g') vs G Q'
      rw [look_cons, if_pos rfl]; exact h2 Q' hQ'
    · rw [if_neg e] at hq
      obtain ⟨r, h1, h2⟩ := h.det g' vs G Q hq
      refine ⟨r, h1, fun Q' hQ' => ?_⟩
      show runO (look ((g, s) :: l) g') vs G Q'
      rw [look_cons, if_neg e]; exact h2 Q' hQ'
/-- The function comes back where its text does. -/
theorem Good.ret {E : Env} {l : List (Nat × Spec1)} (h : Good E l) {g K : Nat} {ks : List (List Nat)} {es : List Nat} {f : PF} (hp : prepF E.P g K ks es = some f) {vs : List V} {G : List (Nat × V)} {Q : R → List (Nat × V) → Prop} (hn : vs.length = f.n)
    (hW : Wf E (specOf l) f vs G Q) : Ret E g vs G Q := Ret_of_W h.snd h.det hp hn hW
theorem fin {Q : R → List (Nat × V) → Prop} {r r' : R} {G : List (Nat × V)} (h : Q r G) (e : r = r') : Q r' G := e ▸ h
theorem fresh_id (G : List (Nat × V)) : ∃ id, look G id = none := by
  have : ∀ (G : List (Nat × V)), ∃ n, ∀ id, n ≤ id → look G id = none := by
    intro G
    induction G with
    | nil => exact ⟨0, fun _ _ => rfl⟩
    | cons p G ih =>
      obtain ⟨k, x⟩ := p
      obtain ⟨n, hn⟩ := ih
      refine ⟨n + k + 1, fun id h => ?_⟩
      rw [look_cons, if_neg (by omega)]
      exact hn id (by omega)
  obtain ⟨n, hn⟩ := this G
  exact ⟨n, hn n (Nat.le_refl _)⟩
/-- A function that makes an object never leaves the objects. -/
theorem detN {α : Prop} {G : List (Nat × V)} {A : Nat → Prop} {x : Nat → V} (h : ∀ id, look G id = none → (((id, x id) :: G) = G ∧ A id)) : α := by
  obtain ⟨id, hid⟩ := fresh_id G
  have := congrArg List.length (h id hid).1
  simp at this
theorem detA {α : Prop} {G : List (Nat × V)} {A : List (Nat × V) → Prop} (h : ∀ G', G' = G ∧ A G') : α := by
  have := congrArg List.length (h ((0, .nilp) :: G)).1
  simp at this
theorem detIf {Q : R → Prop} {c : Prop} {a b : R} {G : List (Nat × V)} (h : (c → G = G ∧ Q a) ∧ (¬ c → G = G ∧ Q b)) : ∃ r, Q r ∧ ∀ Q' : R → List (Nat × V) → Prop, Q' r G → (c → Q' a G) ∧ (¬ c → Q' b G) := by
  by_cases hc : c
  · exact ⟨a, (h.1 hc).2, fun Q' h' => ⟨fun _ => h', fun n => absurd hc n⟩⟩
  · exact ⟨b, (h.2 hc).2, fun Q' h' => ⟨fun n => absurd n hc, fun _ => h'⟩⟩
theorem det00 {r : R} {G2 G : List (Nat × V)} {Q : R → Prop} (h : G2 = G ∧ Q r) : ∃ x, Q x ∧ ∀ Q' : R → List (Nat × V) → Prop, Q' x G → Q' r G2 := ⟨r, h.2, fun Q' h' => by rw [h.1]; exact h'⟩
theorem det0 {P : Prop} {r : R} {G2 G : List (Nat × V)} {Q : R → Prop} (h : P ∧ (G2 = G ∧ Q r)) : ∃ x, Q x ∧ ∀ Q' : R → List (Nat × V) → Prop, Q' x G → P ∧ Q' r G2 := ⟨r, h.2.2, fun Q' h' => ⟨h.1, by rw [h.2.1]; exact h'⟩⟩
theorem detE1 {T1 : Type} {P : T1 → Prop} {r : T1 → R} {G2 : T1 → List (Nat × V)} {G : List (Nat × V)} {Q : R → Prop} (h : ∃ b1, P b1 ∧ (G2 b1 = G ∧ Q (r b1))) : ∃ x, Q x ∧ ∀ Q' : R → List (Nat × V) → Prop, Q' x G → ∃ b1, P b1 ∧ Q' (r b1) (G2 b1) := by
  obtain ⟨b1, hp, e, hq⟩ := h; exact ⟨_, hq, fun Q' h' => ⟨b1, hp, by rw [e]; exact h'⟩⟩
theorem detE2 {T1 : Type} {T2 : Type} {P : T1 → T2 → Prop} {r : T1 → T2 → R} {G2 : T1 → T2 → List (Nat × V)} {G : List (Nat × V)} {Q : R → Prop} (h : ∃ b1 b2, P b1 b2 ∧ (G2 b1 b2 = G ∧ Q (r b1 b2))) : ∃ x, Q x ∧ ∀ Q' : R → List (Nat × V) → Prop, Q' x G → ∃ b1 b2, P b1 b2 ∧ Q' (r b1 b2) (G2 b1 b2) := by
  obtain ⟨b1, b2, hp, e, hq⟩ := h; exact ⟨_, hq, fun Q' h' => ⟨b1, b2, hp, by rw [e]; exact h'⟩⟩
theorem detE3 {T1 : Type} {T2 : Type} {T3 : Type} {P : T1 → T2 → T3 → Prop} {r : T1 → T2 → T3 → R} {G2 : T1 → T2 → T3 → List (Nat × V)} {G : List (Nat × V)} {Q : R → Prop} (h : ∃ b1 b2 b3, P b1 b2 b3 ∧ (G2 b1 b2 b3 = G ∧ Q (r b1 b2 b3))) : ∃ x, Q x ∧ ∀ Q' : R → List (Nat × V) → Prop, Q' x G → ∃ b1 b2 b3, P b1 b2 b3 ∧ Q' (r b1 b2 b3) (G2 b1 b2 b3) := by
  obtain ⟨b1, b2, b3, hp, e, hq⟩ := h; exact ⟨_, hq, fun Q' h' => ⟨b1, b2, b3, hp, by rw [e]; exact h'⟩⟩
theorem detE4 {T1 : Type} {T2 : Type} {T3 : Type} {T4 : Type} {P : T1 → T2 → T3 → T4 → Prop} {r : T1 → T2 → T3 → T4 → R} {G2 : T1 → T2 → T3 → T4 → List (Nat × V)} {G : List (Nat × V)} {Q : R → Prop} (h : ∃ b1 b2 b3 b4, P b1 b2 b3 b4 ∧ (G2 b1 b2 b3 b4 = G ∧ Q (r b1 b2 b3 b4))) : ∃ x, Q x ∧ ∀ Q' : R → List (Nat × V) → Prop, Q' x G → ∃ b1 b2 b3 b4, P b1 b2 b3 b4 ∧ Q' (r b1 b2 b3 b4) (G2 b1 b2 b3 b4) := by
  obtain ⟨b1, b2, b3, b4, hp, e, hq⟩ := h; exact ⟨_, hq, fun Q' h' => ⟨b1, b2, b3, b4, hp, by rw [e]; exact h'⟩⟩
theorem detE5 {T1 : Type} {T2 : Type} {T3 : Type} {T4 : Type} {T5 : Type} {P : T1 → T2 → T3 → T4 → T5 → Prop} {r : T1 → T2 → T3 → T4 → T5 → R} {G2 : T1 → T2 → T3 → T4 → T5 → List (Nat × V)} {G : List (Nat × V)} {Q : R → Prop} (h : ∃ b1 b2 b3 b4 b5, P b1 b2 b3 b4 b5 ∧ (G2 b1 b2 b3 b4 b5 = G ∧ Q (r b1 b2 b3 b4 b5))) : ∃ x, Q x ∧ ∀ Q' : R → List (Nat × V) → Prop, Q' x G → ∃ b1 b2 b3 b4 b5, P b1 b2 b3 b4 b5 ∧ Q' (r b1 b2 b3 b4 b5) (G2 b1 b2 b3 b4 b5) := by
  obtain ⟨b1, b2, b3, b4, b5, hp, e, hq⟩ := h; exact ⟨_, hq, fun Q' h' => ⟨b1, b2, b3, b4, b5, hp, by rw [e]; exact h'⟩⟩
theorem detE6 {T1 : Type} {T2 : Type} {T3 : Type} {T4 : Type} {T5 : Type} {T6 : Type} {P : T1 → T2 → T3 → T4 → T5 → T6 → Prop} {r : T1 → T2 → T3 → T4 → T5 → T6 → R} {G2 : T1 → T2 → T3 → T4 → T5 → T6 → List (Nat × V)} {G : List (Nat × V)} {Q : R → Prop} (h : ∃ b1 b2 b3 b4 b5 b6, P b1 b2 b3 b4 b5 b6 ∧ (G2 b1 b2 b3 b4 b5 b6 = G ∧ Q (r b1 b2 b3 b4 b5 b6))) : ∃ x, Q x ∧ ∀ Q' : R → List (Nat × V) → Prop, Q' x G → ∃ b1 b2 b3 b4 b5 b6, P b1 b2 b3 b4 b5 b6 ∧ Q' (r b1 b2 b3 b4 b5 b6) (G2 b1 b2 b3 b4 b5 b6) := by
  obtain ⟨b1, b2, b3, b4, b5, b6, hp, e, hq⟩ := h; exact ⟨_, hq, fun Q' h' => ⟨b1, b2, b3, b4, b5, b6, hp, by rw [e]; exact h'⟩⟩
theorem detE7 {T1 : Type} {T2 : Type} {T3 : Type} {T4 : Type} {T5 : Type} {T6 : Type} {T7 : Type} {P : T1 → T2 → T3 → T4 → T5 → T6 → T7 → Prop} {r : T1 → T2 → T3 → T4 → T5 → T6 → T7 → R} {G2 : T1 → T2 → T3 → T4 → T5 → T6 → T7 → List (Nat × V)} {G : List (Nat × V)} {Q : R → Prop} (h : ∃ b1 b2 b3 b4 b5 b6 b7, P b1 b2 b3 b4 b5 b6 b7 ∧ (G2 b1 b2 b3 b4 b5 b6 b7 = G ∧ Q (r b1 b2 b3 b4 b5 b6 b7))) : ∃ x, Q x ∧ ∀ Q' : R → List (Nat × V) → Prop, Q' x G → ∃ b1 b2 b3 b4 b5 b6 b7, P b1 b2 b3 b4 b5 b6 b7 ∧ Q' (r b1 b2 b3 b4 b5 b6 b7) (G2 b1 b2 b3 b4 b5 b6 b7) := by
  obtain ⟨b1, b2, b3, b4, b5, b6, b7, hp, e, hq⟩ := h; exact ⟨_, hq, fun Q' h' => ⟨b1, b2, b3, b4, b5, b6, b7, hp, by rw [e]; exact h'⟩⟩
theorem detN0 {α : Prop} {P : Prop} {G : List (Nat × V)} {A : Nat → Prop} {x : Nat → V} (h : P ∧ ∀ id, look G id = none → (((id, x id) :: G) = G ∧ A id)) : α := by
  obtain ⟨hp, h⟩ := h; exact detN h
theorem detA0 {α : Prop} {P : Prop} {G : List (Nat × V)} {A : List (Nat × V) → Prop} (h : P ∧ ∀ G', G' = G ∧ A G') : α := by
  obtain ⟨hp, h⟩ := h; exact detA h
theorem detN1 {α : Prop} {T1 : Type} {P : T1 → Prop} {G : List (Nat × V)} {A : T1 → Nat → Prop} {x : T1 → Nat → V} (h : ∃ b1, P b1 ∧ ∀ id, look G id = none → (((id, x b1 id) :: G) = G ∧ A b1 id)) : α := by
  obtain ⟨b1, hp, h⟩ := h; exact detN h
theorem detA1 {α : Prop} {T1 : Type} {P : T1 → Prop} {G : List (Nat × V)} {A : T1 → List (Nat × V) → Prop} (h : ∃ b1, P b1 ∧ ∀ G', G' = G ∧ A b1 G') : α := by
  obtain ⟨b1, hp, h⟩ := h; exact detA h
theorem detN2 {α : Prop} {T1 : Type} {T2 : Type} {P : T1 → T2 → Prop} {G : List (Nat × V)} {A : T1 → T2 → Nat → Prop} {x : T1 → T2 → Nat → V} (h : ∃ b1 b2, P b1 b2 ∧ ∀ id, look G id = none → (((id, x b1 b2 id) :: G) = G ∧ A b1 b2 id)) : α := by
  obtain ⟨b1, b2, hp, h⟩ := h; exact detN h
theorem detA2 {α : Prop} {T1 : Type} {T2 : Type} {P : T1 → T2 → Prop} {G : List (Nat × V)} {A : T1 → T2 → List (Nat × V) → Prop} (h : ∃ b1 b2, P b1 b2 ∧ ∀ G', G' = G ∧ A b1 b2 G') : α := by
  obtain ⟨b1, b2, hp, h⟩ := h; exact detA h
theorem detN3 {α : Prop} {T1 : Type} {T2 : Type} {T3 : Type} {P : T1 → T2 → T3 → Prop} {G : List (Nat × V)} {A : T1 → T2 → T3 → Nat → Prop} {x : T1 → T2 → T3 → Nat → V} (h : ∃ b1 b2 b3, P b1 b2 b3 ∧ ∀ id, look G id = none → (((id, x b1 b2 b3 id) :: G) = G ∧ A b1 b2 b3 id)) : α := by
  obtain ⟨b1, b2, b3, hp, h⟩ := h; exact detN h
theorem detA3 {α : Prop} {T1 : Type} {T2 : Type} {T3 : Type} {P : T1 → T2 → T3 → Prop} {G : List (Nat × V)} {A : T1 → T2 → T3 → List (Nat × V) → Prop} (h : ∃ b1 b2 b3, P b1 b2 b3 ∧ ∀ G', G' = G ∧ A b1 b2 b3 G') : α := by
  obtain ⟨b1, b2, b3, hp, h⟩ := h; exact detA h
theorem finB {Q : R → List (Nat × V) → Prop} {b b' : Bool} {G : List (Nat × V)} (h : Q (.v (.bool b)) G) (e : b = b') : Q (.v (.bool b')) G := e ▸ h
theorem finI {Q : R → List (Nat × V) → Prop} {k : IntKind} {b b' : Int} {G : List (Nat × V)} (h : Q (.v (.int k b)) G) (e : b = b') : Q (.v (.int k b')) G := e ▸ h
theorem w64 {x : Int} (h1 : -9223372036854775808 ≤ x) (h2 : x ≤ 9223372036854775807) : IntKind.i64.wrap x = x := by
  rw [IntKind.wrap_i64]; omega
theorem wf64 {x : Int} (h : (Lit.int .i64 x).wf = true) : -9223372036854775808 ≤ x ∧ x ≤ 9223372036854775807 := by
  simpa [Lit.wf, IntKind.min, IntKind.max, IntKind.bits, IntKind.signed] using h
theorem wf8 {x : Int} (h : (Lit.int .u8 x).wf = true) : 0 ≤ x ∧ x ≤ 255 := by
  simpa [Lit.wf, IntKind.min, IntKind.max, IntKind.bits, IntKind.signed] using h
theorem Wf_eq {E C f vs G Q} : Wf E C f vs G Q = W E C f.body (retQ E f Q) ⟨initV f.K vs, [], [], G⟩ := rfl
theorem retQ_n {E f Q σ} : retQ E f Q .normal σ = resQ Q σ.G (resR E.tab σ f.res) := rfl
theorem retQ_r {E f Q σ} : retQ E f Q .ret σ = resQ Q σ.G (resR E.tab σ f.res) := rfl
theorem retQ_e {E f Q i σ} : retQ E f Q (.exit i) σ = False := rfl
theorem resQ_some {Q G r} : resQ Q G (some r) = Q r G := rfl
theorem W_loop {E C ks c Q σ} : W E C (.loop ks c) Q σ = loopK (W E C c) ks Q σ := rfl
/-- One round. -/
def rndK (f : (Ex → St → Prop) → St → Prop) (ks : List Nat) (Q : Ex → St → Prop) (n : Nat) (e : Ex) (σ : St) : Prop := match e with
  | .normal => WL f ks Q n (σ.keep ks)
  | e => Q e σ
theorem WL_succ {f ks Q n σ} : WL f ks Q (n + 1) σ = f (rndK f ks Q n) σ := by
  have : (fun e σ' => rndK f ks Q n e σ') = rndK f ks Q n := rfl
  unfold WL
  congr 1
theorem WL_in {E C c c' ks Q n σ} (hc : c = c') (h : W E C c' (rndK (W E C c) ks Q n) σ) : WL (W E C c) ks Q (n + 1) σ := by
  rw [WL_succ]; subst hc; exact h
theorem rndK_n {f ks Q n σ} : rndK f ks Q n .normal σ = WL f ks Q n (σ.keep ks) := rfl
theorem rndK_r {f ks Q n σ} : rndK f ks Q n .ret σ = Q .ret σ := rfl
theorem rndK_e {f ks Q n i σ} : rndK f ks Q n (.exit i) σ = Q (.exit i) σ := rfl
theorem keep_mk {vs ts L G ks} : St.keep ⟨vs, ts, L, G⟩ ks = ⟨keepL 0 ks vs, [], L, G⟩ := rfl
theorem keepL_cons {n ks o l} : keepL n ks (o :: l) = (if ks.contains n = true then o else none) :: keepL (n + 1) ks l := rfl
theorem keepL_nil {n ks} : keepL n ks [] = [] := rfl
theorem get_app {L m : List Bx} {i : Nat} {x : Bx} (h : L[i]? = some x) : (L ++ m)[i]? = some x := by
  rw [List.getElem?_append_left (List.getElem?_eq_some_iff.1 h).1]; exact h
theorem get_set {L : List Bx} {i : Nat} {x y : Bx} (h : L[i]? = some x) : (L.set i y)[i]? = some y := List.getElem?_set_self (List.getElem?_eq_some_iff.1 h).1
theorem get_set_ne {L : List Bx} {i j : Nat} {x y : Bx} (hne : i ≠ j) (h : L[j]? = some x) : (L.set i y)[j]? = some x := by
  rw [List.getElem?_set_ne hne]; exact h
theorem get_last {l : List Bx} {x : Bx} : (l ++ [x])[l.length]? = some x := by simp
theorem set_last {l : List Bx} {x y : Bx} : (l ++ [x]).set l.length y = l ++ [y] := by simp
theorem look_upd_same {α : Type} {G : List (Nat × α)} {id : Nat} {x z : α} (h : look G id = some x) : look (upd G id z) id = some z := by
  induction G with
  | nil => simp [look] at h
  | cons p G ih =>
    obtain ⟨k, d⟩ := p
    by_cases e : id = k
    · subst e; simp [upd, look]
    · have : (id == k) = false := by simpa using e
      simp only [upd, look, this, cond_false] at h ⊢
      exact ih h
theorem look_upd_ne {α : Type} {G : List (Nat × α)} {id j : Nat} {z : α} (h : j ≠ id) : look (upd G id z) j = look G j := by
  induction G with
  | nil => rfl
  | cons p G ih =>
    obtain ⟨k, d⟩ := p
    by_cases e : id = k
    · subst e
      have : (j == id) = false := by simpa using h
      simp [upd, look, this]
    · have : (id == k) = false := by simpa using e
      simp only [upd, this, cond_false, look, ih]
theorem upd_upd {α : Type} {G : List (Nat × α)} {id : Nat} {y z : α} : upd (upd G id y) id z = upd G id z := by
  induction G with
  | nil => rfl
  | cons p G ih =>
    obtain ⟨k, d⟩ := p
    by_cases e : id = k
    · subst e; simp [upd]
    · have : (id == k) = false := by simpa using e
      simp only [upd, this, cond_false, ih]
theorem upd_self {α : Type} {G : List (Nat × α)} {id : Nat} {x : α} (h : look G id = some x) : upd G id x = G := by
  induction G with
  | nil => rfl
  | cons p G ih =>
    obtain ⟨k, d⟩ := p
    by_cases e : id = k
    · subst e; simp [look] at h; simp [upd, h]
    · have : (id == k) = false := by simpa using e
      simp only [look, this, cond_false] at h
      simp only [upd, this, cond_false, ih h]
theorem upd_cons_same {α : Type} {G : List (Nat × α)} {id : Nat} {x z : α} : upd ((id, x) :: G) id z = (id, z) :: G := by simp [upd]
theorem upd_cons_ne {α : Type} {G : List (Nat × α)} {id j : Nat} {x z : α} (h : j ≠ id) : upd ((id, x) :: G) j z = (id, x) :: upd G j z := by
  have : (j == id) = false := by simpa using h
  simp [upd, this]
theorem ne_of_look {α : Type} {G : List (Nat × α)} {a b : Nat} {x : α} (h : look G a = some x) (h2 : look G b = none) : a ≠ b := by
  rintro rfl; rw [h] at h2; cases h2
attribute [go_sem] upd_cons_same upd_upd cond_true cond_false true_or or_true false_or or_false
attribute [go_sem] Option.isNone_none Option.isNone_some Option.isSome_none Option.isSome_some List.append_nil Nat.add_one_sub_one Nat.add_sub_cancel List.length_append Nat.zero_add get_last set_last runO_some callK_of callD_of Wf_eq retQ_n retQ_r retQ_e resQ_some rndK_n rndK_r rndK_e keep_mk keepL_cons keepL_nil W_loop initV chkV resV resVs rD rV rT resR
attribute [go_sem] eq_self not_true_eq_false not_false_eq_true false_implies true_implies forall_const and_false false_and Bool.true_beq Bool.false_beq beq_true beq_false Bool.not_true Bool.not_false decide_true decide_false Int.reduceToNat Int.reduceLT Int.reduceLE Int.cast_ofNat_Int List.getD_cons_zero List.getD_cons_succ Nat.reduceLT Int.reduceAdd Int.reduceSub Int.reduceMul Nat.reduceSub List.isEmpty_nil List.isEmpty_cons ne_eq not_false_eq_true Int.reduceEq Int.reduceNe Nat.reduceAdd Nat.reduceBEq List.contains_cons List.contains_nil Option.map_some Nat.reduceEqDiff reduceCtorEq List.getElem?_cons_zero List.getElem?_cons_succ List.length_nil List.nil_append List.cons_append List.take_succ_cons List.take_zero true_and List.length_cons and_self Bool.false_eq_true List.set_cons_zero List.set_cons_succ Bool.or_true Bool.false_or Bool.not_true beq_self_eq_true Bool.and_true Bool.true_and Bool.true_or Bool.or_false Bool.and_self Bool.or_self Bool.not_false Bool.false_and Bool.and_false List.map_cons List.map_nil List.replicate_succ List.replicate_zero and_true
end Go.Abs
