/- The vault: what all its functions do, further. -/
import Derived.Test.YtjbglbhcbenhpaaDoorTVlt4
namespace Go.Proofs.YtjbglbhcbenhpaaDoor.Sha
open Go Go.Abs Go.Abs.Sha
set_option linter.unusedSimpArgs false
set_option linter.unusedVariables false
set_option maxRecDepth 100000
attribute [local irreducible] W Wops WopsD WL Wop WopD
variable {E : Env} {C : Abs.Spec} {l : List (Nat × Spec1)} {G : List (Nat × V)} {Q : R → List (Nat × V) → Prop}
set_option maxHeartbeats 1000000
structure Like (s t : VS) : Prop where
  id : t.id = s.id
  c : t.c = s.c
  i : t.i = s.i
theorem Like.refl (s : VS) : Like s s := ⟨rfl, rfl, rfl⟩
theorem stepS_like (s : VS) : Like s (stepS s).1 ∧ (stepS s).1.n = s.n ∧ (stepS s).1.s0 = s.s0 ∧ (stepS s).1.s1 = s.s1 ∧ (stepS s).1.h = s.h ∧ (stepS s).1.k = s.k := by
  unfold stepS
  split
  · exact ⟨⟨rfl, rfl, rfl⟩, rfl, rfl, rfl, rfl, rfl⟩
  · split <;> exact ⟨⟨rfl, rfl, rfl⟩, rfl, rfl, rfl, rfl, rfl⟩
theorem put_like (s : VS) (k : Int) (y : V) : Like s (s.put k y) := by unfold VS.put; split <;> exact ⟨rfl, rfl, rfl⟩
theorem stepS_good {s : VS} (h : s.good) : (stepS s).1.good := by
  obtain ⟨h1, h2, h3, h4, h5, h6⟩ := h
  unfold stepS
  split
  · exact ⟨h1, h2, h3, h4, h5, h6⟩
  · split
    · exact ⟨h1, h2, ⟨by show -1 ≤ s.a - 1; omega, by show s.a - 1 ≤ _; omega⟩, h4, h5, h6⟩
    · exact ⟨h1, h2, h3, h4, h5, h6⟩
theorem put_good {s : VS} {k : Int} {b : List Int} (h : s.good) (hl : b.length ≤ 1000) (hb : Byt b) : (s.put k (.sli .u8 b)).good := by
  obtain ⟨h1, h2, h3, h4, h5, h6⟩ := h
  unfold VS.put
  split
  · exact ⟨h1, h2, h3, h4, ⟨_, rfl, hl, hb⟩, h6⟩
  · exact ⟨h1, h2, h3, h4, h5, ⟨_, rfl, hl, hb⟩⟩
/-- A vault's number, slots and half blob, where a seal is kept. -/
def keepS (kt : List Int) (s : VS) (x : SealS) : VS × Int :=
  if s.d = true then (s, 6) else if ¬ x.May then (s, 1) else if (stepS s).2 = false then ({ (stepS s).1 with h := .sli .u8 (x.blob kt s.i (s.n + 1)), k := (s.n + 1).tmod 2 }, 6)
  else if (stepS ((stepS s).1.put ((s.n + 1).tmod 2) (.sli .u8 (x.blob kt s.i (s.n + 1))))).2 = false then ((stepS ((stepS s).1.put ((s.n + 1).tmod 2) (.sli .u8 (x.blob kt s.i (s.n + 1))))).1, 6)
  else ({ (stepS ((stepS s).1.put ((s.n + 1).tmod 2) (.sli .u8 (x.blob kt s.i (s.n + 1))))).1 with n := s.n + 1 }, 0)
def byB (x : V) : List Int := (byV x).getD []
/-- How much of a half blob is written. -/
def cutN (m : Int) (L : Nat) : Int := if (L : Int) < (if m < 0 then 0 else m) then L else if m < 0 then 0 else m
theorem cutN_ok (m : Int) (L : Nat) : 0 ≤ cutN m L ∧ cutN m L ≤ L := by
  unfold cutN
  repeat' split
  all_goals omega
/-- What is left of what was there, behind what was written. -/
def torn (p o : List Int) : List Int := p ++ o.drop (if (o.length : Int) < (p.length : Int) then (o.length : Int) else (p.length : Int)).toNat
/-- The power goes, and comes. -/
def crashS (s : VS) (m : Int) : VS :=
  { (if (byB s.h).length = 0 then s else s.put s.k (.sli .u8 (torn ((byB s.h).take (cutN m (byB s.h).length).toNat) (byB (s.slot s.k))))) with h := .nils, d := false, a := -1 }
theorem walk245 {x : V} {k : Int} {b : List Int} {s : VS} (h1 : Abs.look l 46 = some SSt2) (hs : s.at G x) (hg : s.good) (hk : k = 0 ∨ k = 1)
    (h : Q (.v (.bool (stepS s).2)) (setG G (if (stepS s).2 = true then (stepS s).1.put k (.sli .u8 b) else { (stepS s).1 with h := .sli .u8 b, k := k }))) : Wf E (specOf l) pf45 [x, .int .i64 k, .sli .u8 b] G Q := by
  obtain ⟨⟨e1, e2, e3⟩, e4, e5, e6, e7, e8⟩ := stepS_like s
  have at1 := at_setG (t := (stepS s).1) hs e1 e2 (by rw [e4]; exact hs.ok) (by rw [e5]; exact hs.z0) (by rw [e6]; exact hs.z1)
  have hne := hs.ne
  have hx := hs.x
  subst hx
  simp (maxSteps := 1000000) (implicitDefEqProofs := false) only [pf45, h1, SSt2_eq, go_sem, ↓reduceIte, decide_eq_true_eq, decide_eq_false_iff_not, ge_iff_le, gt_iff_lt, Int.not_le, Int.not_lt, Bool.not_eq_true', Bool.not_eq_false', Bool.and_eq_true, Bool.and_eq_false_iff]
  refine ⟨s, ⟨hs, hg⟩, ?_⟩
  rcases hst : stepS s with ⟨s1, ok⟩
  rw [hst] at h at1 e1 e2 e3 e4 e5 e6 e7 e8
  simp only at h at1 e1 e2 e3 e4 e5 e6 e7 e8
  have hgg : ∀ t : VS, Like s1 t → t.n = s1.n → setG G t = upd (setG G s1) s1.id t.val := fun t ht hn => by
    rw [← setG_setG (s := s1) (t := t) ht.id ht.c (by rw [e1, e2]; exact hne)]
    exact setG_one at1 ht.id ht.c hn
  have hv := at1.v
  rw [e1] at hv
  obtain ⟨b0, z0⟩ := at1.z0
  obtain ⟨b1, z1⟩ := at1.z1
  obtain ⟨g0, _⟩ := by_size z0
  obtain ⟨g1, _⟩ := by_size z1
  unfold VS.val at hv
  cases ok with
  | true =>
    simp only [if_true] at h
    rw [hgg _ (put_like _ _ _) (by unfold VS.put; split <;> rfl), e1] at h
    generalize setG G s1 = G1 at *
    rcases byV_cases z0 with f0 | ⟨f0, rfl⟩ <;> rcases byV_cases z1 with f1 | ⟨f1, rfl⟩ <;> rw [f0, f1] at hv <;> rcases hk with rfl | rfl <;>
      (simp only [VS.put, VS.val, if_true, reduceIte, Int.reduceEq, f0, f1] at h) <;> (simp (maxSteps := 1000000) (implicitDefEqProofs := false) only [hv, go_sem, ↓reduceIte, decide_eq_true_eq, decide_eq_false_iff_not, ge_iff_le, gt_iff_lt, Int.not_le, Int.not_lt, Bool.not_eq_true', Bool.not_eq_false', Bool.and_eq_true, Bool.and_eq_false_iff]) <;> exact ⟨two_sz rfl rfl, h⟩
  | false =>
    simp only [Bool.false_eq_true, if_false] at h
    rw [hgg { s1 with h := .sli .u8 b, k := k } ⟨rfl, rfl, rfl⟩ rfl, e1] at h
    generalize setG G s1 = G1 at *
    obtain ⟨bh, zh, _⟩ := hg.h
    rw [← e7] at zh
    rcases byV_cases zh with f2 | ⟨f2, rfl⟩ <;> rw [f2] at hv <;> (have hv2 : ∀ z, Abs.look (upd G1 s.id z) s.id = some z := fun z => look_upd_same hv) <;> (simp (maxSteps := 1000000) (implicitDefEqProofs := false) only [hv, hv2, upd_upd, g0, g1, go_sem, ↓reduceIte, decide_eq_true_eq, decide_eq_false_iff_not, ge_iff_le, gt_iff_lt, Int.not_le, Int.not_lt, Bool.not_eq_true', Bool.not_eq_false', Bool.and_eq_true, Bool.and_eq_false_iff]) <;> exact h
theorem walk215 {kt : List Int} {x : V} {a1 a2 a3 : Int} {a4 : List Int} {s : VS} (h1 : Abs.look l 42 = some SIs) (h2 : Abs.look l 43 = some SBc) (h3 : Abs.look l 24 = some SVat) (h4 : Abs.look l 44 = some (SBp kt))
    (h5 : Abs.look l 45 = some SWr2) (h6 : Abs.look l 46 = some SSt2) (h7 : Abs.look l 47 = some S28) (hs : s.at G x) (hg : s.good) (hlt : s.n < 1099511627776) (hw : (⟨a1, a2, a3, a4⟩ : SealS).wf)
    (h : Q (.v (.int .i64 (keepS kt s (⟨a1, a2, a3, a4⟩ : SealS)).2)) (setG G (keepS kt s (⟨a1, a2, a3, a4⟩ : SealS)).1)) : Wf E (specOf l) pf15 [x, .agg [.int .i64 a1, .int .i64 a2, .int .i64 a3, .arr .u8 32 a4]] G Q := by
  have hs' := hs
  obtain ⟨rfl, hv, hc, hne, hok, ⟨b0, z0⟩, ⟨b1, z1⟩⟩ := hs
  obtain ⟨g0, _⟩ := by_size z0
  obtain ⟨g1, _⟩ := by_size z1
  have hok2 := hok
  unfold okC at hok2
  unfold VS.val at hv
  unfold keepS at h
  simp (maxSteps := 1000000) (implicitDefEqProofs := false) only [pf15, h1, SIs_eq, go_sem, ↓reduceIte, decide_eq_true_eq, decide_eq_false_iff_not, ge_iff_le, gt_iff_lt, Int.not_le, Int.not_lt, Bool.not_eq_true', Bool.not_eq_false', Bool.and_eq_true, Bool.and_eq_false_iff]
  refine ⟨true, .inr ⟨s, hs', rfl⟩, ?_⟩
  cases hd : s.d with
  | true =>
    rw [hd] at hv
    rw [if_pos hd, setG_same hs'] at h
    simp (maxSteps := 1000000) (implicitDefEqProofs := false) only [hv, g0, g1, go_sem, ↓reduceIte, decide_eq_true_eq, decide_eq_false_iff_not, ge_iff_le, gt_iff_lt, Int.not_le, Int.not_lt, Bool.not_eq_true', Bool.not_eq_false', Bool.and_eq_true, Bool.and_eq_false_iff]
    exact h
  | false =>
    rw [hd] at hv
    rw [if_neg (by rw [hd]; simp)] at h
    simp (maxSteps := 1000000) (implicitDefEqProofs := false) only [hv, g0, g1, h2, SBc_eq, go_sem, ↓reduceIte, decide_eq_true_eq, decide_eq_false_iff_not, ge_iff_le, gt_iff_lt, Int.not_le, Int.not_lt, Bool.not_eq_true', Bool.not_eq_false', Bool.and_eq_true, Bool.and_eq_false_iff]
    refine ⟨hw, ?_⟩
    by_cases hm : (⟨a1, a2, a3, a4⟩ : SealS).May
    · have hmay : (⟨a1, a2, a3, a4⟩ : SealS).may = true := decide_eq_true hm
      rw [if_neg (fun c => c hm)] at h
      simp (maxSteps := 1000000) (implicitDefEqProofs := false) only [hmay, h3, SVat_eq, go_sem, ↓reduceIte, decide_eq_true_eq, decide_eq_false_iff_not, ge_iff_le, gt_iff_lt, Int.not_le, Int.not_lt, Bool.not_eq_true', Bool.not_eq_false', Bool.and_eq_true, Bool.and_eq_false_iff]
      refine ⟨s.n, .inr ⟨s, hs', rfl⟩, ?_⟩
      have hw1 : IntKind.i64.wrap (s.n + 1) = s.n + 1 := w64 (by omega) (by omega)
      have hp : putV kt s.i (s.n + 1) (⟨a1, a2, a3, a4⟩ : SealS) = .tup [.sli .u8 ((⟨a1, a2, a3, a4⟩ : SealS).blob kt s.i (s.n + 1)), .int .i64 0] := by unfold putV; rw [if_pos ⟨hm, hg.i, by omega, by omega⟩]
      rw [hw1]
      simp (maxSteps := 1000000) (implicitDefEqProofs := false) only [hv, g0, g1, h4, SBp_eq, hp, go_sem, ↓reduceIte, decide_eq_true_eq, decide_eq_false_iff_not, ge_iff_le, gt_iff_lt, Int.not_le, Int.not_lt, Bool.not_eq_true', Bool.not_eq_false', Bool.and_eq_true, Bool.and_eq_false_iff]
      refine ⟨hw, ?_⟩
      have hk : (s.n + 1).tmod 2 = 0 ∨ (s.n + 1).tmod 2 = 1 := by rw [Int.tmod_eq_emod_of_nonneg (by omega)]; omega
      obtain ⟨bb1, bl1⟩ := blob_byt (kt := kt) (i := s.i) hw hm (ve := s.n + 1) (by omega)
      generalize (s.n + 1).tmod 2 = k at hk h ⊢
      generalize (⟨a1, a2, a3, a4⟩ : SealS).blob kt s.i (s.n + 1) = bb at *
      simp (maxSteps := 1000000) (implicitDefEqProofs := false) only [h5, SWr2_eq, go_sem, ↓reduceIte, decide_eq_true_eq, decide_eq_false_iff_not, ge_iff_le, gt_iff_lt, Int.not_le, Int.not_lt, Bool.not_eq_true', Bool.not_eq_false', Bool.and_eq_true, Bool.and_eq_false_iff]
      refine ⟨s, ⟨hs', hg, hk⟩, ?_⟩
      have hg1 := stepS_good hg
      have at1 := at_setG (t := (stepS s).1) hs' (stepS_like s).1.id (stepS_like s).1.c (by rw [(stepS_like s).2.1]; exact hok) (by rw [(stepS_like s).2.2.1]; exact ⟨b0, z0⟩) (by rw [(stepS_like s).2.2.2.1]; exact ⟨b1, z1⟩)
      cases hk1 : (stepS s).2 with
      | false =>
        rw [if_pos hk1] at h
        simp (maxSteps := 1000000) (implicitDefEqProofs := false) only [go_sem, ↓reduceIte, decide_eq_true_eq, decide_eq_false_iff_not, ge_iff_le, gt_iff_lt, Int.not_le, Int.not_lt, Bool.not_eq_true', Bool.not_eq_false', Bool.and_eq_true, Bool.and_eq_false_iff]
        exact h
      | true =>
        rw [if_neg (by rw [hk1]; simp)] at h
        have hg2 := put_good (k := k) hg1 (by omega : bb.length ≤ 1000) bb1
        have lk2 : Like s ((stepS s).1.put k (.sli .u8 bb)) := by
          have := put_like (stepS s).1 k (.sli .u8 bb)
          have q := (stepS_like s).1
          exact ⟨this.id.trans q.id, this.c.trans q.c, this.i.trans q.i⟩
        have n2 : ((stepS s).1.put k (.sli .u8 bb)).n = s.n := by
          have : ((stepS s).1.put k (.sli .u8 bb)).n = (stepS s).1.n := by unfold VS.put; split <;> rfl
          rw [this]; exact (stepS_like s).2.1
        have at2 := at_setG (t := (stepS s).1.put k (.sli .u8 bb)) hs' lk2.id lk2.c (by rw [n2]; exact hok) (let ⟨b, e, _⟩ := hg2.z0; ⟨b, e⟩) (let ⟨b, e, _⟩ := hg2.z1; ⟨b, e⟩)
        generalize (stepS s).1.put k (.sli .u8 bb) = s2 at *
        simp (maxSteps := 1000000) (implicitDefEqProofs := false) only [h6, SSt2_eq, go_sem, ↓reduceIte, decide_eq_true_eq, decide_eq_false_iff_not, ge_iff_le, gt_iff_lt, Int.not_le, Int.not_lt, Bool.not_eq_true', Bool.not_eq_false', Bool.and_eq_true, Bool.and_eq_false_iff]
        refine ⟨s2, ⟨at2, hg2⟩, ?_⟩
        have gg : setG (setG G s2) (stepS s2).1 = setG G (stepS s2).1 := setG_setG (stepS_like s2).1.id (stepS_like s2).1.c (by rw [lk2.id, lk2.c]; exact hne)
        rw [gg]
        have lk3 : Like s (stepS s2).1 := ⟨(stepS_like s2).1.id.trans lk2.id, (stepS_like s2).1.c.trans lk2.c, (stepS_like s2).1.i.trans lk2.i⟩
        have hg3 := stepS_good hg2
        have n3 : (stepS s2).1.n = s.n := (stepS_like s2).2.1.trans n2
        have at3 := at_setG (t := (stepS s2).1) hs' lk3.id lk3.c (by rw [n3]; exact hok) (let ⟨b, e, _⟩ := hg3.z0; ⟨b, e⟩) (let ⟨b, e, _⟩ := hg3.z1; ⟨b, e⟩)
        cases hk2 : (stepS s2).2 with
        | false =>
          rw [if_pos hk2] at h
          simp (maxSteps := 1000000) (implicitDefEqProofs := false) only [go_sem, ↓reduceIte, decide_eq_true_eq, decide_eq_false_iff_not, ge_iff_le, gt_iff_lt, Int.not_le, Int.not_lt, Bool.not_eq_true', Bool.not_eq_false', Bool.and_eq_true, Bool.and_eq_false_iff]
          exact h
        | true =>
          rw [if_neg (by rw [hk2]; simp)] at h
          generalize (stepS s2).1 = s3 at *
          have hv3 := at3.v
          have hc3 := at3.c
          obtain ⟨c0, f0, _⟩ := hg3.z0
          obtain ⟨c1, f1, _⟩ := hg3.z1
          have g03 := (by_size f0).1
          have g13 := (by_size f1).1
          rw [lk3.id] at hv3
          unfold VS.val at hv3
          rw [n3] at hc3
          simp (maxSteps := 1000000) (implicitDefEqProofs := false) only [hv3, g03, g13, h7, S28_eq, go_sem, ↓reduceIte, decide_eq_true_eq, decide_eq_false_iff_not, ge_iff_le, gt_iff_lt, Int.not_le, Int.not_lt, Bool.not_eq_true', Bool.not_eq_false', Bool.and_eq_true, Bool.and_eq_false_iff]
          refine ⟨s.n, true, ⟨.inr ⟨s3.c, rfl, hc3⟩, fun _ => hok⟩, ?_⟩
          have u1 : upE s.n true = 0 := by unfold upE; rw [if_pos rfl, if_neg (by omega)]
          have u2 : upA s.n true = s.n + 1 := by unfold upA; rw [if_pos rfl, if_neg (by omega)]
          rw [u1, u2]
          have e : upd (setG G s3) s3.c (CT (s.n + 1) true) = setG G { s3 with n := s.n + 1 } := by unfold setG; rw [upd_upd]
          show Q _ (upd (setG G s3) s3.c (CT (s.n + 1) true))
          rw [e]
          exact h
    · have hmay : (⟨a1, a2, a3, a4⟩ : SealS).may = false := decide_eq_false hm
      rw [if_pos hm, setG_same hs'] at h
      simp (maxSteps := 1000000) (implicitDefEqProofs := false) only [hmay, go_sem, ↓reduceIte, decide_eq_true_eq, decide_eq_false_iff_not, ge_iff_le, gt_iff_lt, Int.not_le, Int.not_lt, Bool.not_eq_true', Bool.not_eq_false', Bool.and_eq_true, Bool.and_eq_false_iff]
      exact h
theorem walk218 {x : V} {n : Int} {s : VS} (h1 : Abs.look l 42 = some SIs) (h2 : Abs.look l 48 = some SCb) (hs : s.at G x) (hg : s.good) (h : Q (.tup []) (setG G (crashS s n))) : Wf E (specOf l) pf18 [x, .int .i64 n] G Q := by
  have hs' := hs
  obtain ⟨rfl, hv, hc, hne, hok, _, _⟩ := hs
  obtain ⟨b0, z0, l0, y0⟩ := hg.z0
  obtain ⟨b1, z1, l1, y1⟩ := hg.z1
  obtain ⟨bh, zh, lh, yh⟩ := hg.h
  have eh : byB s.h = bh := by unfold byB; rw [zh]; rfl
  unfold VS.val at hv
  unfold crashS at h
  rw [eh] at h
  simp only at h
  simp (maxSteps := 1000000) (implicitDefEqProofs := false) only [pf18, h1, SIs_eq, go_sem, ↓reduceIte, decide_eq_true_eq, decide_eq_false_iff_not, ge_iff_le, gt_iff_lt, Int.not_le, Int.not_lt, Bool.not_eq_true', Bool.not_eq_false', Bool.and_eq_true, Bool.and_eq_false_iff]
  refine ⟨true, .inr ⟨s, hs', rfl⟩, ?_⟩
  by_cases hz : bh.length = 0
  · obtain rfl : bh = [] := List.eq_nil_of_length_eq_zero hz
    rw [if_pos hz, setG_one (t := { s with h := .nils, d := false, a := -1 }) hs' rfl rfl rfl] at h
    have hv2 : ∀ z, Abs.look (upd G s.id z) s.id = some z := fun z => look_upd_same hv
    rcases byV_cases zh with f2 | ⟨f2, _⟩ <;> rw [f2] at hv <;> rcases byV_cases z0 with f0 | ⟨f0, rfl⟩ <;> rcases byV_cases z1 with f1 | ⟨f1, rfl⟩ <;> rw [f0, f1] at hv <;> (simp only [VS.val, f0, f1] at h) <;>
      (simp (maxSteps := 1000000) (implicitDefEqProofs := false) only [hv, hv2, upd_upd, go_sem, ↓reduceIte, decide_eq_true_eq, decide_eq_false_iff_not, ge_iff_le, gt_iff_lt, Int.not_le, Int.not_lt, Bool.not_eq_true', Bool.not_eq_false', Bool.and_eq_true, Bool.and_eq_false_iff]) <;> exact h
  · have hz' : (0 : Int) < bh.length := by omega
    rw [if_neg hz] at h
    have f2 : s.h = .sli .u8 bh := by
      rcases byV_cases zh with e | ⟨_, e⟩
      · exact e
      · rw [e] at hz; simp at hz
    rw [f2] at hv
    rcases hg.k with hk | hk
    · rw [hk] at hv h
      rcases byV_cases z0 with f0 | ⟨f0, rfl⟩ <;> rcases byV_cases z1 with f1 | ⟨f1, rfl⟩
      · rw [f0, f1] at hv
        have eo : byB (s.slot 0) = b0 := by show byB s.s0 = _; rw [f0]; rfl
        rw [eo, setG_one (t := { s.put 0 (.sli .u8 (torn (bh.take (cutN n bh.length).toNat) b0)) with h := .nils, d := false, a := -1 }) hs' rfl rfl rfl] at h
        have hv2 : ∀ z, Abs.look (upd G s.id z) s.id = some z := fun z => look_upd_same hv
        simp (maxSteps := 1000000) (implicitDefEqProofs := false) only [hv, hz', hk, go_sem, ↓reduceIte, decide_eq_true_eq, decide_eq_false_iff_not, ge_iff_le, gt_iff_lt, Int.not_le, Int.not_lt, Bool.not_eq_true', Bool.not_eq_false', Bool.and_eq_true, Bool.and_eq_false_iff]
        have hcn := cutN_ok n bh.length
        unfold cutN at hcn h
        generalize (if (bh.length : Int) < (if n < 0 then 0 else n) then (bh.length : Int) else if n < 0 then 0 else n) = cc at hcn h ⊢
        simp only [List.drop_zero, Int.toNat_natCast, List.take_length]
        have hpl : (bh.take cc.toNat).length ≤ 1000 := by rw [List.length_take]; omega
        generalize bh.take cc.toNat = p at h hpl ⊢
        unfold torn at h
        simp only [VS.put, VS.val, if_true, reduceIte, Int.reduceEq, f0, f1, hk, List.length_nil] at h
        refine ⟨hcn, two_sz rfl rfl, (by repeat' first | omega | (refine And.intro ?_ ?_) | split), ?_⟩
        simp (maxSteps := 1000000) (implicitDefEqProofs := false) only [h2, SCb_eq, hv2, upd_upd, hv, go_sem, ↓reduceIte, decide_eq_true_eq, decide_eq_false_iff_not, ge_iff_le, gt_iff_lt, Int.not_le, Int.not_lt, Bool.not_eq_true', Bool.not_eq_false', Bool.and_eq_true, Bool.and_eq_false_iff]
        refine ⟨_, ⟨rfl, by omega, (by first | (rw [List.length_drop]; omega) | simp)⟩, two_sz rfl rfl, ?_⟩
        try simp only [List.drop_nil, List.append_nil] at h
        first | exact h | (simp only [List.append_nil]; exact h)
      · rw [f0, f1] at hv
        have eo : byB (s.slot 0) = b0 := by show byB s.s0 = _; rw [f0]; rfl
        rw [eo, setG_one (t := { s.put 0 (.sli .u8 (torn (bh.take (cutN n bh.length).toNat) b0)) with h := .nils, d := false, a := -1 }) hs' rfl rfl rfl] at h
        have hv2 : ∀ z, Abs.look (upd G s.id z) s.id = some z := fun z => look_upd_same hv
        simp (maxSteps := 1000000) (implicitDefEqProofs := false) only [hv, hz', hk, go_sem, ↓reduceIte, decide_eq_true_eq, decide_eq_false_iff_not, ge_iff_le, gt_iff_lt, Int.not_le, Int.not_lt, Bool.not_eq_true', Bool.not_eq_false', Bool.and_eq_true, Bool.and_eq_false_iff]
        have hcn := cutN_ok n bh.length
        unfold cutN at hcn h
        generalize (if (bh.length : Int) < (if n < 0 then 0 else n) then (bh.length : Int) else if n < 0 then 0 else n) = cc at hcn h ⊢
        simp only [List.drop_zero, Int.toNat_natCast, List.take_length]
        have hpl : (bh.take cc.toNat).length ≤ 1000 := by rw [List.length_take]; omega
        generalize bh.take cc.toNat = p at h hpl ⊢
        unfold torn at h
        simp only [VS.put, VS.val, if_true, reduceIte, Int.reduceEq, f0, f1, hk, List.length_nil] at h
        refine ⟨hcn, two_sz rfl rfl, (by repeat' first | omega | (refine And.intro ?_ ?_) | split), ?_⟩
        simp (maxSteps := 1000000) (implicitDefEqProofs := false) only [h2, SCb_eq, hv2, upd_upd, hv, go_sem, ↓reduceIte, decide_eq_true_eq, decide_eq_false_iff_not, ge_iff_le, gt_iff_lt, Int.not_le, Int.not_lt, Bool.not_eq_true', Bool.not_eq_false', Bool.and_eq_true, Bool.and_eq_false_iff]
        refine ⟨_, ⟨rfl, by omega, (by first | (rw [List.length_drop]; omega) | simp)⟩, two_sz rfl rfl, ?_⟩
        try simp only [List.drop_nil, List.append_nil] at h
        first | exact h | (simp only [List.append_nil]; exact h)
      · rw [f0, f1] at hv
        have eo : byB (s.slot 0) = ([] : List Int) := by show byB s.s0 = _; rw [f0]; rfl
        rw [eo, setG_one (t := { s.put 0 (.sli .u8 (torn (bh.take (cutN n bh.length).toNat) ([] : List Int))) with h := .nils, d := false, a := -1 }) hs' rfl rfl rfl] at h
        have hv2 : ∀ z, Abs.look (upd G s.id z) s.id = some z := fun z => look_upd_same hv
        simp (maxSteps := 1000000) (implicitDefEqProofs := false) only [hv, hz', hk, go_sem, ↓reduceIte, decide_eq_true_eq, decide_eq_false_iff_not, ge_iff_le, gt_iff_lt, Int.not_le, Int.not_lt, Bool.not_eq_true', Bool.not_eq_false', Bool.and_eq_true, Bool.and_eq_false_iff]
        have hcn := cutN_ok n bh.length
        unfold cutN at hcn h
        generalize (if (bh.length : Int) < (if n < 0 then 0 else n) then (bh.length : Int) else if n < 0 then 0 else n) = cc at hcn h ⊢
        simp only [List.drop_zero, Int.toNat_natCast, List.take_length]
        have hpl : (bh.take cc.toNat).length ≤ 1000 := by rw [List.length_take]; omega
        generalize bh.take cc.toNat = p at h hpl ⊢
        unfold torn at h
        simp only [VS.put, VS.val, if_true, reduceIte, Int.reduceEq, f0, f1, hk, List.length_nil] at h
        refine ⟨hcn, two_sz rfl rfl, (by repeat' first | omega | (refine And.intro ?_ ?_) | split), ?_⟩
        simp (maxSteps := 1000000) (implicitDefEqProofs := false) only [h2, SCb_eq, hv2, upd_upd, hv, go_sem, ↓reduceIte, decide_eq_true_eq, decide_eq_false_iff_not, ge_iff_le, gt_iff_lt, Int.not_le, Int.not_lt, Bool.not_eq_true', Bool.not_eq_false', Bool.and_eq_true, Bool.and_eq_false_iff]
        refine ⟨_, ⟨rfl, by omega, (by first | (rw [List.length_drop]; omega) | simp)⟩, two_sz rfl rfl, ?_⟩
        try simp only [List.drop_nil, List.append_nil] at h
        first | exact h | (simp only [List.append_nil]; exact h)
      · rw [f0, f1] at hv
        have eo : byB (s.slot 0) = ([] : List Int) := by show byB s.s0 = _; rw [f0]; rfl
        rw [eo, setG_one (t := { s.put 0 (.sli .u8 (torn (bh.take (cutN n bh.length).toNat) ([] : List Int))) with h := .nils, d := false, a := -1 }) hs' rfl rfl rfl] at h
        have hv2 : ∀ z, Abs.look (upd G s.id z) s.id = some z := fun z => look_upd_same hv
        simp (maxSteps := 1000000) (implicitDefEqProofs := false) only [hv, hz', hk, go_sem, ↓reduceIte, decide_eq_true_eq, decide_eq_false_iff_not, ge_iff_le, gt_iff_lt, Int.not_le, Int.not_lt, Bool.not_eq_true', Bool.not_eq_false', Bool.and_eq_true, Bool.and_eq_false_iff]
        have hcn := cutN_ok n bh.length
        unfold cutN at hcn h
        generalize (if (bh.length : Int) < (if n < 0 then 0 else n) then (bh.length : Int) else if n < 0 then 0 else n) = cc at hcn h ⊢
        simp only [List.drop_zero, Int.toNat_natCast, List.take_length]
        have hpl : (bh.take cc.toNat).length ≤ 1000 := by rw [List.length_take]; omega
        generalize bh.take cc.toNat = p at h hpl ⊢
        unfold torn at h
        simp only [VS.put, VS.val, if_true, reduceIte, Int.reduceEq, f0, f1, hk, List.length_nil] at h
        refine ⟨hcn, two_sz rfl rfl, (by repeat' first | omega | (refine And.intro ?_ ?_) | split), ?_⟩
        simp (maxSteps := 1000000) (implicitDefEqProofs := false) only [h2, SCb_eq, hv2, upd_upd, hv, go_sem, ↓reduceIte, decide_eq_true_eq, decide_eq_false_iff_not, ge_iff_le, gt_iff_lt, Int.not_le, Int.not_lt, Bool.not_eq_true', Bool.not_eq_false', Bool.and_eq_true, Bool.and_eq_false_iff]
        refine ⟨_, ⟨rfl, by omega, (by first | (rw [List.length_drop]; omega) | simp)⟩, two_sz rfl rfl, ?_⟩
        try simp only [List.drop_nil, List.append_nil] at h
        first | exact h | (simp only [List.append_nil]; exact h)
    · rw [hk] at hv h
      rcases byV_cases z0 with f0 | ⟨f0, rfl⟩ <;> rcases byV_cases z1 with f1 | ⟨f1, rfl⟩
      · rw [f0, f1] at hv
        have eo : byB (s.slot 1) = b1 := by show byB s.s1 = _; rw [f1]; rfl
        rw [eo, setG_one (t := { s.put 1 (.sli .u8 (torn (bh.take (cutN n bh.length).toNat) b1)) with h := .nils, d := false, a := -1 }) hs' rfl rfl rfl] at h
        have hv2 : ∀ z, Abs.look (upd G s.id z) s.id = some z := fun z => look_upd_same hv
        simp (maxSteps := 1000000) (implicitDefEqProofs := false) only [hv, hz', hk, go_sem, ↓reduceIte, decide_eq_true_eq, decide_eq_false_iff_not, ge_iff_le, gt_iff_lt, Int.not_le, Int.not_lt, Bool.not_eq_true', Bool.not_eq_false', Bool.and_eq_true, Bool.and_eq_false_iff]
        have hcn := cutN_ok n bh.length
        unfold cutN at hcn h
        generalize (if (bh.length : Int) < (if n < 0 then 0 else n) then (bh.length : Int) else if n < 0 then 0 else n) = cc at hcn h ⊢
        simp only [List.drop_zero, Int.toNat_natCast, List.take_length]
        have hpl : (bh.take cc.toNat).length ≤ 1000 := by rw [List.length_take]; omega
        generalize bh.take cc.toNat = p at h hpl ⊢
        unfold torn at h
        simp only [VS.put, VS.val, if_true, reduceIte, Int.reduceEq, f0, f1, hk, List.length_nil] at h
        refine ⟨hcn, two_sz rfl rfl, (by repeat' first | omega | (refine And.intro ?_ ?_) | split), ?_⟩
        simp (maxSteps := 1000000) (implicitDefEqProofs := false) only [h2, SCb_eq, hv2, upd_upd, hv, go_sem, ↓reduceIte, decide_eq_true_eq, decide_eq_false_iff_not, ge_iff_le, gt_iff_lt, Int.not_le, Int.not_lt, Bool.not_eq_true', Bool.not_eq_false', Bool.and_eq_true, Bool.and_eq_false_iff]
        refine ⟨_, ⟨rfl, by omega, (by first | (rw [List.length_drop]; omega) | simp)⟩, two_sz rfl rfl, ?_⟩
        try simp only [List.drop_nil, List.append_nil] at h
        first | exact h | (simp only [List.append_nil]; exact h)
      · rw [f0, f1] at hv
        have eo : byB (s.slot 1) = ([] : List Int) := by show byB s.s1 = _; rw [f1]; rfl
        rw [eo, setG_one (t := { s.put 1 (.sli .u8 (torn (bh.take (cutN n bh.length).toNat) ([] : List Int))) with h := .nils, d := false, a := -1 }) hs' rfl rfl rfl] at h
        have hv2 : ∀ z, Abs.look (upd G s.id z) s.id = some z := fun z => look_upd_same hv
        simp (maxSteps := 1000000) (implicitDefEqProofs := false) only [hv, hz', hk, go_sem, ↓reduceIte, decide_eq_true_eq, decide_eq_false_iff_not, ge_iff_le, gt_iff_lt, Int.not_le, Int.not_lt, Bool.not_eq_true', Bool.not_eq_false', Bool.and_eq_true, Bool.and_eq_false_iff]
        have hcn := cutN_ok n bh.length
        unfold cutN at hcn h
        generalize (if (bh.length : Int) < (if n < 0 then 0 else n) then (bh.length : Int) else if n < 0 then 0 else n) = cc at hcn h ⊢
        simp only [List.drop_zero, Int.toNat_natCast, List.take_length]
        have hpl : (bh.take cc.toNat).length ≤ 1000 := by rw [List.length_take]; omega
        generalize bh.take cc.toNat = p at h hpl ⊢
        unfold torn at h
        simp only [VS.put, VS.val, if_true, reduceIte, Int.reduceEq, f0, f1, hk, List.length_nil] at h
        refine ⟨hcn, two_sz rfl rfl, (by repeat' first | omega | (refine And.intro ?_ ?_) | split), ?_⟩
        simp (maxSteps := 1000000) (implicitDefEqProofs := false) only [h2, SCb_eq, hv2, upd_upd, hv, go_sem, ↓reduceIte, decide_eq_true_eq, decide_eq_false_iff_not, ge_iff_le, gt_iff_lt, Int.not_le, Int.not_lt, Bool.not_eq_true', Bool.not_eq_false', Bool.and_eq_true, Bool.and_eq_false_iff]
        refine ⟨_, ⟨rfl, by omega, (by first | (rw [List.length_drop]; omega) | simp)⟩, two_sz rfl rfl, ?_⟩
        try simp only [List.drop_nil, List.append_nil] at h
        first | exact h | (simp only [List.append_nil]; exact h)
      · rw [f0, f1] at hv
        have eo : byB (s.slot 1) = b1 := by show byB s.s1 = _; rw [f1]; rfl
        rw [eo, setG_one (t := { s.put 1 (.sli .u8 (torn (bh.take (cutN n bh.length).toNat) b1)) with h := .nils, d := false, a := -1 }) hs' rfl rfl rfl] at h
        have hv2 : ∀ z, Abs.look (upd G s.id z) s.id = some z := fun z => look_upd_same hv
        simp (maxSteps := 1000000) (implicitDefEqProofs := false) only [hv, hz', hk, go_sem, ↓reduceIte, decide_eq_true_eq, decide_eq_false_iff_not, ge_iff_le, gt_iff_lt, Int.not_le, Int.not_lt, Bool.not_eq_true', Bool.not_eq_false', Bool.and_eq_true, Bool.and_eq_false_iff]
        have hcn := cutN_ok n bh.length
        unfold cutN at hcn h
        generalize (if (bh.length : Int) < (if n < 0 then 0 else n) then (bh.length : Int) else if n < 0 then 0 else n) = cc at hcn h ⊢
        simp only [List.drop_zero, Int.toNat_natCast, List.take_length]
        have hpl : (bh.take cc.toNat).length ≤ 1000 := by rw [List.length_take]; omega
        generalize bh.take cc.toNat = p at h hpl ⊢
        unfold torn at h
        simp only [VS.put, VS.val, if_true, reduceIte, Int.reduceEq, f0, f1, hk, List.length_nil] at h
        refine ⟨hcn, two_sz rfl rfl, (by repeat' first | omega | (refine And.intro ?_ ?_) | split), ?_⟩
        simp (maxSteps := 1000000) (implicitDefEqProofs := false) only [h2, SCb_eq, hv2, upd_upd, hv, go_sem, ↓reduceIte, decide_eq_true_eq, decide_eq_false_iff_not, ge_iff_le, gt_iff_lt, Int.not_le, Int.not_lt, Bool.not_eq_true', Bool.not_eq_false', Bool.and_eq_true, Bool.and_eq_false_iff]
        refine ⟨_, ⟨rfl, by omega, (by first | (rw [List.length_drop]; omega) | simp)⟩, two_sz rfl rfl, ?_⟩
        try simp only [List.drop_nil, List.append_nil] at h
        first | exact h | (simp only [List.append_nil]; exact h)
      · rw [f0, f1] at hv
        have eo : byB (s.slot 1) = ([] : List Int) := by show byB s.s1 = _; rw [f1]; rfl
        rw [eo, setG_one (t := { s.put 1 (.sli .u8 (torn (bh.take (cutN n bh.length).toNat) ([] : List Int))) with h := .nils, d := false, a := -1 }) hs' rfl rfl rfl] at h
        have hv2 : ∀ z, Abs.look (upd G s.id z) s.id = some z := fun z => look_upd_same hv
        simp (maxSteps := 1000000) (implicitDefEqProofs := false) only [hv, hz', hk, go_sem, ↓reduceIte, decide_eq_true_eq, decide_eq_false_iff_not, ge_iff_le, gt_iff_lt, Int.not_le, Int.not_lt, Bool.not_eq_true', Bool.not_eq_false', Bool.and_eq_true, Bool.and_eq_false_iff]
        have hcn := cutN_ok n bh.length
        unfold cutN at hcn h
        generalize (if (bh.length : Int) < (if n < 0 then 0 else n) then (bh.length : Int) else if n < 0 then 0 else n) = cc at hcn h ⊢
        simp only [List.drop_zero, Int.toNat_natCast, List.take_length]
        have hpl : (bh.take cc.toNat).length ≤ 1000 := by rw [List.length_take]; omega
        generalize bh.take cc.toNat = p at h hpl ⊢
        unfold torn at h
        simp only [VS.put, VS.val, if_true, reduceIte, Int.reduceEq, f0, f1, hk, List.length_nil] at h
        refine ⟨hcn, two_sz rfl rfl, (by repeat' first | omega | (refine And.intro ?_ ?_) | split), ?_⟩
        simp (maxSteps := 1000000) (implicitDefEqProofs := false) only [h2, SCb_eq, hv2, upd_upd, hv, go_sem, ↓reduceIte, decide_eq_true_eq, decide_eq_false_iff_not, ge_iff_le, gt_iff_lt, Int.not_le, Int.not_lt, Bool.not_eq_true', Bool.not_eq_false', Bool.and_eq_true, Bool.and_eq_false_iff]
        refine ⟨_, ⟨rfl, by omega, (by first | (rw [List.length_drop]; omega) | simp)⟩, two_sz rfl rfl, ?_⟩
        try simp only [List.drop_nil, List.append_nil] at h
        first | exact h | (simp only [List.append_nil]; exact h)
end Go.Proofs.YtjbglbhcbenhpaaDoor.Sha
