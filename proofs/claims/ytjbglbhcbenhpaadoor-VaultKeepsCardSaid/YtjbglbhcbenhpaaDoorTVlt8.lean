/- The vault: the first calls, in general. -/
import Derived.Test.YtjbglbhcbenhpaaDoorTVlt7
namespace Go.Proofs.YtjbglbhcbenhpaaDoor.Sha
open Go Go.Abs Go.Abs.Sha
set_option linter.unusedSimpArgs false
set_option linter.unusedVariables false
set_option maxRecDepth 100000
attribute [local irreducible] W Wops WopsD WL Wop WopD
variable {E : Env} {C : Abs.Spec} {l : List (Nat × Spec1)} {G : List (Nat × V)} {Q : R → List (Nat × V) → Prop}
set_option maxHeartbeats 1000000
theorem newV_good {n : Int} {c id : Nat} {i : Int} (hi : 1 ≤ i ∧ i ≤ 21) : (newV i n c id).good := ⟨⟨[], rfl, by simp, fun x hx => by simp at hx⟩, .inl rfl, am1, hi, ⟨[], rfl, by simp, fun x hx => by simp at hx⟩, ⟨[], rfl, by simp, fun x hx => by simp at hx⟩⟩
theorem keep_live {kt : List Int} {s : VS} {x : SealS} (hd : s.d = false) (ha : s.a = -1) (hm : x.May) : keepS kt s x = ({ s.put ((s.n + 1).tmod 2) (.sli .u8 (x.blob kt s.i (s.n + 1))) with n := s.n + 1 }, 0) := by
  have st : ∀ t : VS, t.a = -1 → stepS t = (t, true) := fun t ht => by unfold stepS; rw [if_neg (by omega), if_neg (by omega)]
  have pa : ∀ k y, (s.put k y).a = -1 := fun k y => by unfold VS.put; split <;> exact ha
  unfold keepS
  rw [if_neg (by rw [hd]; simp), if_neg (fun c => c hm), st s ha, if_neg (by simp)]
  simp only
  rw [st _ (pa _ _), if_neg (by simp)]
theorem walk210 (h1 : Abs.look l 11 = some SNew) (h2 : Abs.look l 15 = some (SKp2 K256)) (h3 : Abs.look l 23 = some SSlo) (h4 : Abs.look l 19 = some (SLd2 K256))
    (h5 : Abs.look l 21 = some SSw) (h6 : Abs.look l 24 = some SVat) (h : ∀ G', Q (.v (.bool true)) G') : Wf E (specOf l) pf10 [] G Q := by
  simp (maxSteps := 1000000) (implicitDefEqProofs := false) only [pf10, h1, SNew_eq, h2, go_sem, ↓reduceIte, decide_eq_true_eq, decide_eq_false_iff_not, ge_iff_le, gt_iff_lt, Int.not_le, Int.not_lt, Bool.not_eq_true', Bool.not_eq_false', Bool.and_eq_true, Bool.and_eq_false_iff]
  refine ⟨by decide, fun c hc id hid => ?_⟩
  have at0 := newV_at (i := 2) (n := 0) (by decide) hid
  generalize (id, (newV 2 0 c id).val) :: (c, CT 0 true) :: G = G1 at *
  have gd0 := newV_good (n := 0) (c := c) (id := id) (i := 2) (by decide)
  obtain ⟨bb1, bl1⟩ := blob_byt (kt := K256) (i := 2) wfS1 mayS1 (ve := 1) (by decide)
  have gb1 := getBlob_of (kt := K256) (i := 2) (ve := 1) wfS1 mayS1 (by decide) (by decide)
  have k1 : keepS K256 (newV 2 0 c id) ⟨1, 1, 0, [0, 0, 0, 0, 0, 0, 0, 0, 0, 0, 0, 0, 0, 0, 0, 0, 0, 0, 0, 0, 0, 0, 0, 0, 0, 0, 0, 0, 0, 0, 0, 0]⟩ = ({ (newV 2 0 c id).put 1 (.sli .u8 ((⟨1, 1, 0, [0, 0, 0, 0, 0, 0, 0, 0, 0, 0, 0, 0, 0, 0, 0, 0, 0, 0, 0, 0, 0, 0, 0, 0, 0, 0, 0, 0, 0, 0, 0, 0]⟩ : SealS).blob K256 2 1)) with n := 1 }, 0) := keep_live rfl rfl mayS1
  have gd1 := keepS_good (kt := K256) gd0 wfS1 ⟨by show (0 : Int) ≤ 0; decide, by show (0 : Int) < 1099511627776; decide⟩
  rw [SKp2_eq]
  refine ⟨newV 2 0 c id, ⟨at0, gd0, (by show (0 : Int) < 1099511627776; decide), wfS1⟩, ?_⟩
  rw [k1] at gd1 ⊢
  generalize (⟨1, 1, 0, [0, 0, 0, 0, 0, 0, 0, 0, 0, 0, 0, 0, 0, 0, 0, 0, 0, 0, 0, 0, 0, 0, 0, 0, 0, 0, 0, 0, 0, 0, 0, 0]⟩ : SealS).blob K256 2 1 = b1 at *
  have at1 := at_setG (t := { (newV 2 0 c id).put 1 (.sli .u8 b1) with n := 1 }) at0 rfl rfl (by show okC 1; decide) ⟨_, rfl⟩ ⟨_, rfl⟩
  generalize hs1 : ({ (newV 2 0 c id).put 1 (.sli .u8 b1) with n := 1 } : VS) = s1 at *
  generalize setG G1 s1 = G2 at *
  have n1 : s1.n = 1 := by rw [← hs1]
  have i1 : s1.i = 2 := by rw [← hs1]; rfl
  have z1 : byV s1.s1 = some b1 := by rw [← hs1]; rfl
  have d1 : s1.d = false := by rw [← hs1]; rfl
  have a1 : s1.a = -1 := by rw [← hs1]; rfl
  simp only
  simp (maxSteps := 1000000) (implicitDefEqProofs := false) only [h3, go_sem, ↓reduceIte, decide_eq_true_eq, decide_eq_false_iff_not, ge_iff_le, gt_iff_lt, Int.not_le, Int.not_lt, Bool.not_eq_true', Bool.not_eq_false', Bool.and_eq_true, Bool.and_eq_false_iff]
  rw [SSlo_eq]
  refine .inr ⟨s1, b1, ⟨at1, .inr rfl, z1, by omega⟩, ?_⟩
  simp (maxSteps := 1000000) (implicitDefEqProofs := false) only [h2, go_sem, ↓reduceIte, decide_eq_true_eq, decide_eq_false_iff_not, ge_iff_le, gt_iff_lt, Int.not_le, Int.not_lt, Bool.not_eq_true', Bool.not_eq_false', Bool.and_eq_true, Bool.and_eq_false_iff]
  rw [SKp2_eq]
  have gd1 : s1.good := gd1
  have k2 := keep_live (kt := K256) (s := s1) (x := ⟨2, 1, 0, [0, 0, 0, 0, 0, 0, 0, 0, 0, 0, 0, 0, 0, 0, 0, 0, 0, 0, 0, 0, 0, 0, 0, 0, 0, 0, 0, 0, 0, 0, 0, 0]⟩) d1 a1 mayS2
  have gd2 := keepS_good (kt := K256) (x := ⟨2, 1, 0, [0, 0, 0, 0, 0, 0, 0, 0, 0, 0, 0, 0, 0, 0, 0, 0, 0, 0, 0, 0, 0, 0, 0, 0, 0, 0, 0, 0, 0, 0, 0, 0]⟩) gd1 wfS2 ⟨by omega, by omega⟩
  refine ⟨s1, ⟨at1, gd1, by omega, wfS2⟩, ?_⟩
  rw [k2] at gd2 ⊢
  rw [n1, i1, show ((1 : Int) + 1).tmod 2 = 0 from rfl, show (1 : Int) + 1 = 2 from rfl] at gd2 ⊢
  obtain ⟨bb2, bl2⟩ := blob_byt (kt := K256) (i := 2) wfS2 mayS2 (ve := 2) (by decide)
  have gb2 := getBlob_of (kt := K256) (i := 2) (ve := 2) wfS2 mayS2 (by decide) (by decide)
  generalize (⟨2, 1, 0, [0, 0, 0, 0, 0, 0, 0, 0, 0, 0, 0, 0, 0, 0, 0, 0, 0, 0, 0, 0, 0, 0, 0, 0, 0, 0, 0, 0, 0, 0, 0, 0]⟩ : SealS).blob K256 2 2 = b2 at *
  have at2 := at_setG (t := { s1.put 0 (.sli .u8 b2) with n := 2 }) at1 rfl rfl (by show okC 2; decide) ⟨_, rfl⟩ ⟨_, z1⟩
  have l1 : loadD K256 { s1.put 0 (.sli .u8 b2) with n := 2 } = (⟨2, 1, 0, [0, 0, 0, 0, 0, 0, 0, 0, 0, 0, 0, 0, 0, 0, 0, 0, 0, 0, 0, 0, 0, 0, 0, 0, 0, 0, 0, 0, 0, 0, 0, 0]⟩, 0) := by
    unfold loadD
    rw [if_neg (by show ¬ s1.d = true; rw [d1]; simp)]
    show loadV K256 s1.i 2 b2 (byB s1.s1) = _
    unfold loadV; rw [i1, gb2, if_neg (by decide), if_pos ⟨rfl, rfl⟩]
  simp only
  generalize setG G2 { s1.put 0 (.sli .u8 b2) with n := 2 } = G3 at *
  simp (maxSteps := 1000000) (implicitDefEqProofs := false) only [h4, go_sem, ↓reduceIte, decide_eq_true_eq, decide_eq_false_iff_not, ge_iff_le, gt_iff_lt, Int.not_le, Int.not_lt, Bool.not_eq_true', Bool.not_eq_false', Bool.and_eq_true, Bool.and_eq_false_iff]
  rw [SLd2_eq]
  refine ⟨_, ⟨at2, gd2⟩, fun G4 e4 => ?_⟩
  have at4 := at2.ext e4
  rw [l1]
  simp (maxSteps := 1000000) (implicitDefEqProofs := false) only [h5, SealS.v, go_sem, ↓reduceIte, decide_eq_true_eq, decide_eq_false_iff_not, ge_iff_le, gt_iff_lt, Int.not_le, Int.not_lt, Bool.not_eq_true', Bool.not_eq_false', Bool.and_eq_true, Bool.and_eq_false_iff]
  rw [SSw_eq]
  refine .inr ⟨_, b1, ⟨at4, .inl rfl, rfl, by omega⟩, ?_⟩
  have at5 := at4.put (k := 0) (b := b1) (.inl rfl)
  have gd5 := put_good (k := 0) gd2 (by omega : b1.length ≤ 1000) bb1
  generalize hs2 : ({ s1.put 0 (.sli .u8 b2) with n := 2 } : VS).put 0 (.sli .u8 b1) = s2 at *
  have n2 : s2.n = 2 := by rw [← hs2]; rfl
  have i2 : s2.i = 2 := by rw [← hs2]; exact i1
  have z2 : byB s2.s0 = b1 := by rw [← hs2]; rfl
  have y2 : byB s2.s1 = b1 := by rw [← hs2]; exact byB_of z1
  have d2 : s2.d = false := by rw [← hs2]; exact d1
  generalize upd G4 _ s2.val = G5 at *
  simp (maxSteps := 1000000) (implicitDefEqProofs := false) only [h4, go_sem, ↓reduceIte, decide_eq_true_eq, decide_eq_false_iff_not, ge_iff_le, gt_iff_lt, Int.not_le, Int.not_lt, Bool.not_eq_true', Bool.not_eq_false', Bool.and_eq_true, Bool.and_eq_false_iff]
  rw [SLd2_eq]
  refine ⟨s2, ⟨at5, gd5⟩, fun G6 e6 => ?_⟩
  have l2 : loadD K256 s2 = (.zero, 8) := by
    unfold loadD
    rw [if_neg (by rw [d2]; simp), z2, y2]
    unfold loadV; rw [i2, n2, gb1, if_neg (by decide), if_neg (by decide), if_neg (by decide)]
  have at6 := at5.ext e6
  rw [l2]
  simp (maxSteps := 1000000) (implicitDefEqProofs := false) only [h6, SVat_eq, SealS.v, SealS.zero, go_sem, ↓reduceIte, decide_eq_true_eq, decide_eq_false_iff_not, ge_iff_le, gt_iff_lt, Int.not_le, Int.not_lt, Bool.not_eq_true', Bool.not_eq_false', Bool.and_eq_true, Bool.and_eq_false_iff]
  exact ⟨2, .inr ⟨s2, at6, n2.symm⟩, h G6⟩
end Go.Proofs.YtjbglbhcbenhpaaDoor.Sha
