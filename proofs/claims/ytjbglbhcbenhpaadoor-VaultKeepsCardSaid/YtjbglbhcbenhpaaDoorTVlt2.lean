/- The vault: its functions, further. -/
import Derived.Test.YtjbglbhcbenhpaaDoorTVlt1
namespace Go.Proofs.YtjbglbhcbenhpaaDoor.Sha
open Go Go.Abs Go.Abs.Sha
set_option linter.unusedSimpArgs false
set_option linter.unusedVariables false
set_option maxRecDepth 100000
attribute [local irreducible] W Wops WopsD WL Wop WopD
variable {E : Env} {C : Abs.Spec} {l : List (Nat × Spec1)} {G : List (Nat × V)} {Q : R → List (Nat × V) → Prop}
set_option maxHeartbeats 1000000
theorem VS.at.put {s : VS} {G : List (Nat × V)} {x : V} {k : Int} {b : List Int} (h : s.at G x) (hk : k = 0 ∨ k = 1) : (s.put k (.sli .u8 b)).at (upd G s.id (s.put k (.sli .u8 b)).val) x := by
  rcases hk with rfl | rfl
  · exact ⟨h.x, look_upd_same h.v, by show Abs.look (upd _ _ _) s.c = _; rw [look_upd_ne h.ne]; exact h.c, h.ne, h.ok, ⟨_, rfl⟩, h.z1⟩
  · exact ⟨h.x, look_upd_same h.v, by show Abs.look (upd _ _ _) s.c = _; rw [look_upd_ne h.ne]; exact h.c, h.ne, h.ok, h.z0, ⟨_, rfl⟩⟩
def newV (i n : Int) (c id : Nat) : VS := ⟨i, .nils, .nils, c, -1, false, .nils, 0, id, n⟩
def SSw : Spec1
  | [x, .int .i64 k, y], G, Q => (NB G x ∧ Q (.v (.int .i64 5)) G) ∨ ∃ (s : VS) (b : List Int), (s.at G x ∧ (k = 0 ∨ k = 1) ∧ byV y = some b ∧ b.length ≤ 1000) ∧ Q (.v (.int .i64 0)) (upd G s.id (s.put k (.sli .u8 b)).val)
  | _, _, _ => False
theorem SSw_eq {x k y} : SSw [x, .int .i64 k, y] G Q = ((NB G x ∧ Q (.v (.int .i64 5)) G) ∨ ∃ (s : VS) (b : List Int), (s.at G x ∧ (k = 0 ∨ k = 1) ∧ byV y = some b ∧ b.length ≤ 1000) ∧ Q (.v (.int .i64 0)) (upd G s.id (s.put k (.sli .u8 b)).val)) := rfl
def SSlo : Spec1
  | [x, .int .i64 k], G, Q => (NB G x ∧ Q (.own .nils) G) ∨ ∃ (s : VS) (b : List Int), (s.at G x ∧ (k = 0 ∨ k = 1) ∧ byV (s.slot k) = some b ∧ b.length < 10000000000000) ∧ Q (.own (.sli .u8 b)) G
  | _, _, _ => False
theorem SSlo_eq {x k} : SSlo [x, .int .i64 k] G Q = ((NB G x ∧ Q (.own .nils) G) ∨ ∃ (s : VS) (b : List Int), (s.at G x ∧ (k = 0 ∨ k = 1) ∧ byV (s.slot k) = some b ∧ b.length < 10000000000000) ∧ Q (.own (.sli .u8 b)) G) := rfl
def SNew : Spec1
  | [.int .i64 i, .int .i64 n], G, Q => (okC n ∧ 1 ≤ i ∧ i ≤ 21) ∧ ∀ c, Abs.look G c = none → ∀ id, Abs.look ((c, CT n true) :: G) id = none → Q (.tup [.ptr id, .int .i64 0]) ((id, (newV i n c id).val) :: (c, CT n true) :: G)
  | _, _, _ => False
theorem SNew_eq {i n} : SNew [.int .i64 i, .int .i64 n] G Q = ((okC n ∧ 1 ≤ i ∧ i ≤ 21) ∧ ∀ c, Abs.look G c = none → ∀ id, Abs.look ((c, CT n true) :: G) id = none → Q (.tup [.ptr id, .int .i64 0]) ((id, (newV i n c id).val) :: (c, CT n true) :: G)) := rfl
def SLd (kt : List Int) : Spec1
  | [x], G, Q => (NB G x ∧ Q (.tup [.agg [.int .i64 0, .int .i64 0, .int .i64 0, .arr .u8 32 [0, 0, 0, 0, 0, 0, 0, 0, 0, 0, 0, 0, 0, 0, 0, 0, 0, 0, 0, 0, 0, 0, 0, 0, 0, 0, 0, 0, 0, 0, 0, 0]], .int .i64 5]) G) ∨ ∃ (s : VS) (b0 b1 : List Int), (s.at G x ∧ s.d = false ∧ byV s.s0 = some b0 ∧ byV s.s1 = some b1 ∧ (Byt b0 ∧ Byt b1) ∧ b0.length < 100000000000 ∧ b1.length < 100000000000) ∧ ∀ G', Ext G G' → Q (.tup [(loadV kt s.i s.n b0 b1).1.v, .int .i64 (loadV kt s.i s.n b0 b1).2]) G'
  | _, _, _ => False
theorem SLd_eq {kt x} : SLd kt [x] G Q = ((NB G x ∧ Q (.tup [.agg [.int .i64 0, .int .i64 0, .int .i64 0, .arr .u8 32 [0, 0, 0, 0, 0, 0, 0, 0, 0, 0, 0, 0, 0, 0, 0, 0, 0, 0, 0, 0, 0, 0, 0, 0, 0, 0, 0, 0, 0, 0, 0, 0]], .int .i64 5]) G) ∨ ∃ (s : VS) (b0 b1 : List Int), (s.at G x ∧ s.d = false ∧ byV s.s0 = some b0 ∧ byV s.s1 = some b1 ∧ (Byt b0 ∧ Byt b1) ∧ b0.length < 100000000000 ∧ b1.length < 100000000000) ∧ ∀ G', Ext G G' → Q (.tup [(loadV kt s.i s.n b0 b1).1.v, .int .i64 (loadV kt s.i s.n b0 b1).2]) G') := rfl
def SKp (kt : List Int) : Spec1
  | [x, .agg [.int .i64 a1, .int .i64 a2, .int .i64 a3, .arr .u8 32 a4]], G, Q => (NB G x ∧ Q (.v (.int .i64 5)) G) ∨ ∃ s : VS, (s.at G x ∧ s.d = false ∧ s.a = -1 ∧ (1 ≤ s.i ∧ s.i ≤ 21) ∧ s.n < 1099511627776 ∧ (⟨a1, a2, a3, a4⟩ : SealS).wf ∧ (⟨a1, a2, a3, a4⟩ : SealS).May) ∧ Q (.v (.int .i64 0)) (upd (upd G s.id (s.put ((s.n + 1).tmod 2) (.sli .u8 ((⟨a1, a2, a3, a4⟩ : SealS).blob kt s.i (s.n + 1)))).val) s.c (CT (s.n + 1) true))
  | _, _, _ => False
theorem SKp_eq {kt x a1 a2 a3 a4} : SKp kt [x, .agg [.int .i64 a1, .int .i64 a2, .int .i64 a3, .arr .u8 32 a4]] G Q = ((NB G x ∧ Q (.v (.int .i64 5)) G) ∨ ∃ s : VS, (s.at G x ∧ s.d = false ∧ s.a = -1 ∧ (1 ≤ s.i ∧ s.i ≤ 21) ∧ s.n < 1099511627776 ∧ (⟨a1, a2, a3, a4⟩ : SealS).wf ∧ (⟨a1, a2, a3, a4⟩ : SealS).May) ∧ Q (.v (.int .i64 0)) (upd (upd G s.id (s.put ((s.n + 1).tmod 2) (.sli .u8 ((⟨a1, a2, a3, a4⟩ : SealS).blob kt s.i (s.n + 1)))).val) s.c (CT (s.n + 1) true))) := rfl
theorem walk21 {x y : V} {k : Int} (h1 : Abs.look l 42 = some SIs) (h2 : Abs.look l 50 = some SCl) (hh : SSw [x, .int .i64 k, y] G Q) : Wf E (specOf l) pf21 [x, .int .i64 k, y] G Q := by
  rcases hh with ⟨hn, h⟩ | ⟨s, b, ⟨hs, hk, hy, hl⟩, h⟩
  · simp (maxSteps := 1000000) (implicitDefEqProofs := false) only [pf21, h1, SIs_eq, go_sem, ↓reduceIte, decide_eq_true_eq, decide_eq_false_iff_not, ge_iff_le, gt_iff_lt, Int.not_le, Int.not_lt, Bool.not_eq_true', Bool.not_eq_false', Bool.and_eq_true, Bool.and_eq_false_iff]
    refine ⟨false, .inl ⟨hn, rfl⟩, ?_⟩
    try simp (maxSteps := 1000000) (implicitDefEqProofs := false) only [go_sem, ↓reduceIte, decide_eq_true_eq, decide_eq_false_iff_not, ge_iff_le, gt_iff_lt, Int.not_le, Int.not_lt, Bool.not_eq_true', Bool.not_eq_false', Bool.and_eq_true, Bool.and_eq_false_iff]
    exact h
  · have hs' := hs
    obtain ⟨rfl, hv, hc, hne, hok, ⟨b0, z0⟩, ⟨b1, z1⟩⟩ := hs
    have hl' : ¬ (1000 : Int) < b.length := by omega
    rcases byV_cases hy with rfl | ⟨rfl, rfl⟩ <;> rcases byV_cases z0 with e0 | ⟨e0, rfl⟩ <;> rcases byV_cases z1 with e1 | ⟨e1, rfl⟩ <;> unfold VS.val at hv <;> rw [e0, e1] at hv <;> rcases hk with rfl | rfl <;>
      (simp only [VS.put, VS.val, if_true, reduceIte, Int.reduceEq, e0, e1] at h) <;>
      (simp (maxSteps := 1000000) (implicitDefEqProofs := false) only [pf21, h1, SIs_eq, h2, SCl_eq, hv, hl', go_sem, ↓reduceIte, decide_eq_true_eq, decide_eq_false_iff_not, ge_iff_le, gt_iff_lt, Int.not_le, Int.not_lt, Bool.not_eq_true', Bool.not_eq_false', Bool.and_eq_true, Bool.and_eq_false_iff]) <;>
      (refine ⟨true, .inr ⟨s, hs', rfl⟩, ?_⟩) <;> (simp (maxSteps := 1000000) (implicitDefEqProofs := false) only [h2, SCl_eq, hv, hl', go_sem, ↓reduceIte, decide_eq_true_eq, decide_eq_false_iff_not, ge_iff_le, gt_iff_lt, Int.not_le, Int.not_lt, Bool.not_eq_true', Bool.not_eq_false', Bool.and_eq_true, Bool.and_eq_false_iff]) <;> first | exact ⟨b, ⟨rfl, by omega⟩, two_sz rfl rfl, h⟩ | exact ⟨[], ⟨rfl, by simp⟩, two_sz rfl rfl, h⟩
theorem walk23 {x : V} {k : Int} (h1 : Abs.look l 42 = some SIs) (h2 : Abs.look l 50 = some SCl) (hh : SSlo [x, .int .i64 k] G Q) : Wf E (specOf l) pf23 [x, .int .i64 k] G Q := by
  rcases hh with ⟨hn, h⟩ | ⟨s, b, ⟨hs, hk, hy, hl⟩, h⟩
  · simp (maxSteps := 1000000) (implicitDefEqProofs := false) only [pf23, h1, SIs_eq, go_sem, ↓reduceIte, decide_eq_true_eq, decide_eq_false_iff_not, ge_iff_le, gt_iff_lt, Int.not_le, Int.not_lt, Bool.not_eq_true', Bool.not_eq_false', Bool.and_eq_true, Bool.and_eq_false_iff]
    refine ⟨false, .inl ⟨hn, rfl⟩, ?_⟩
    try simp (maxSteps := 1000000) (implicitDefEqProofs := false) only [go_sem, ↓reduceIte, decide_eq_true_eq, decide_eq_false_iff_not, ge_iff_le, gt_iff_lt, Int.not_le, Int.not_lt, Bool.not_eq_true', Bool.not_eq_false', Bool.and_eq_true, Bool.and_eq_false_iff]
    exact h
  · have hs' := hs
    obtain ⟨rfl, hv, hc, hne, hok, ⟨b0, z0⟩, ⟨b1, z1⟩⟩ := hs
    rcases byV_cases z0 with e0 | ⟨e0, rfl⟩ <;> rcases byV_cases z1 with e1 | ⟨e1, rfl⟩ <;> unfold VS.val at hv <;> rw [e0, e1] at hv <;> rcases hk with rfl | rfl <;>
      (simp only [VS.slot, if_true, reduceIte, Int.reduceEq, e0, e1] at hy) <;>
      (simp (maxSteps := 1000000) (implicitDefEqProofs := false) only [pf23, h1, SIs_eq, h2, SCl_eq, hv, go_sem, ↓reduceIte, decide_eq_true_eq, decide_eq_false_iff_not, ge_iff_le, gt_iff_lt, Int.not_le, Int.not_lt, Bool.not_eq_true', Bool.not_eq_false', Bool.and_eq_true, Bool.and_eq_false_iff]) <;>
      (refine ⟨true, .inr ⟨s, hs', rfl⟩, ?_⟩) <;> (simp (maxSteps := 1000000) (implicitDefEqProofs := false) only [h2, SCl_eq, hv, go_sem, ↓reduceIte, decide_eq_true_eq, decide_eq_false_iff_not, ge_iff_le, gt_iff_lt, Int.not_le, Int.not_lt, Bool.not_eq_true', Bool.not_eq_false', Bool.and_eq_true, Bool.and_eq_false_iff]) <;> exact ⟨two_sz rfl rfl, b, ⟨hy, hl⟩, h⟩
theorem walk11 {i n : Int} (h1 : Abs.look l 36 = some S26) (h2 : Abs.look l 37 = some SNo) (hn : okC n) (hi : 1 ≤ i ∧ i ≤ 21)
    (h : ∀ c, Abs.look G c = none → ∀ id, Abs.look ((c, CT n true) :: G) id = none → Q (.tup [.ptr id, .int .i64 0]) ((id, (newV i n c id).val) :: (c, CT n true) :: G)) : Wf E (specOf l) pf11 [.int .i64 i, .int .i64 n] G Q := by
  simp (maxSteps := 1000000) (implicitDefEqProofs := false) only [pf11, h1, S26_eq, h2, SNo_eq, hi, go_sem, ↓reduceIte, decide_eq_true_eq, decide_eq_false_iff_not, ge_iff_le, gt_iff_lt, Int.not_le, Int.not_lt, Bool.not_eq_true', Bool.not_eq_false', Bool.and_eq_true, Bool.and_eq_false_iff]
  exact ⟨fun _ c hc id hid => h c hc id (by rw [look_cons]; exact hid), fun c => absurd hn c⟩
theorem walk15 {kt : List Int} {x : V} {a1 a2 a3 : Int} {a4 : List Int} (h1 : Abs.look l 42 = some SIs) (h2 : Abs.look l 43 = some SBc) (h3 : Abs.look l 24 = some SVat) (h4 : Abs.look l 44 = some (SBp kt))
    (h5 : Abs.look l 45 = some SWr) (h6 : Abs.look l 46 = some SStep) (h7 : Abs.look l 47 = some S28) (hh : SKp kt [x, .agg [.int .i64 a1, .int .i64 a2, .int .i64 a3, .arr .u8 32 a4]] G Q) : Wf E (specOf l) pf15 [x, .agg [.int .i64 a1, .int .i64 a2, .int .i64 a3, .arr .u8 32 a4]] G Q := by
  rcases hh with ⟨hn, h⟩ | ⟨s, ⟨hs, hd, ha, hi, hlt, hw, hm⟩, h⟩
  · simp (maxSteps := 1000000) (implicitDefEqProofs := false) only [pf15, h1, SIs_eq, go_sem, ↓reduceIte, decide_eq_true_eq, decide_eq_false_iff_not, ge_iff_le, gt_iff_lt, Int.not_le, Int.not_lt, Bool.not_eq_true', Bool.not_eq_false', Bool.and_eq_true, Bool.and_eq_false_iff]
    refine ⟨false, .inl ⟨hn, rfl⟩, ?_⟩
    try simp (maxSteps := 1000000) (implicitDefEqProofs := false) only [go_sem, ↓reduceIte, decide_eq_true_eq, decide_eq_false_iff_not, ge_iff_le, gt_iff_lt, Int.not_le, Int.not_lt, Bool.not_eq_true', Bool.not_eq_false', Bool.and_eq_true, Bool.and_eq_false_iff]
    exact h
  · have hs' := hs
    obtain ⟨rfl, hv, hc, hne, hok, ⟨b0, z0⟩, ⟨b1, z1⟩⟩ := hs
    obtain ⟨g0, _⟩ := by_size z0
    obtain ⟨g1, _⟩ := by_size z1
    have hok2 := hok
    unfold okC at hok2
    have hmay : (⟨a1, a2, a3, a4⟩ : SealS).may = true := decide_eq_true hm
    have hw1 : IntKind.i64.wrap (s.n + 1) = s.n + 1 := w64 (by omega) (by omega)
    have hp : putV kt s.i (s.n + 1) (⟨a1, a2, a3, a4⟩ : SealS) = .tup [.sli .u8 ((⟨a1, a2, a3, a4⟩ : SealS).blob kt s.i (s.n + 1)), .int .i64 0] := by unfold putV; rw [if_pos ⟨hm, hi, by omega, by omega⟩]
    unfold VS.val at hv
    rw [hd] at hv
    simp (maxSteps := 1000000) (implicitDefEqProofs := false) only [pf15, h1, SIs_eq, h2, SBc_eq, h3, SVat_eq, h4, SBp_eq, h5, SWr_eq, h6, SStep_eq, h7, S28_eq, hv, g0, g1, hmay, go_sem, ↓reduceIte, decide_eq_true_eq, decide_eq_false_iff_not, ge_iff_le, gt_iff_lt, Int.not_le, Int.not_lt, Bool.not_eq_true', Bool.not_eq_false', Bool.and_eq_true, Bool.and_eq_false_iff]
    refine ⟨true, .inr ⟨s, hs', rfl⟩, ?_⟩
    simp (maxSteps := 1000000) (implicitDefEqProofs := false) only [h2, SBc_eq, h3, SVat_eq, h4, SBp_eq, h5, SWr_eq, h6, SStep_eq, h7, S28_eq, hv, g0, g1, hmay, go_sem, ↓reduceIte, decide_eq_true_eq, decide_eq_false_iff_not, ge_iff_le, gt_iff_lt, Int.not_le, Int.not_lt, Bool.not_eq_true', Bool.not_eq_false', Bool.and_eq_true, Bool.and_eq_false_iff]
    refine ⟨hw, s.n, .inr ⟨s, hs', rfl⟩, hw, ?_⟩
    have hk : (s.n + 1).tmod 2 = 0 ∨ (s.n + 1).tmod 2 = 1 := by rw [Int.tmod_eq_emod_of_nonneg (by omega)]; omega
    rw [hw1, hp]
    simp (maxSteps := 1000000) (implicitDefEqProofs := false) only [h5, SWr_eq, h6, SStep_eq, h7, S28_eq, go_sem, ↓reduceIte, decide_eq_true_eq, decide_eq_false_iff_not, ge_iff_le, gt_iff_lt, Int.not_le, Int.not_lt, Bool.not_eq_true', Bool.not_eq_false', Bool.and_eq_true, Bool.and_eq_false_iff]
    generalize (s.n + 1).tmod 2 = k at hk h
    generalize (⟨a1, a2, a3, a4⟩ : SealS).blob kt s.i (s.n + 1) = bb at h
    refine ⟨s, ⟨hs', ha, hk, _, rfl⟩, _, ⟨hs'.put hk, (by unfold VS.put; split <;> exact ha)⟩, ?_⟩
    obtain ⟨t0, t1, hval, ht0, ht1⟩ : ∃ t0 t1, (s.put k (.sli .u8 bb)).val = .agg [.int .i64 s.i, .agg [t0, t1], .ptr s.c, .int .i64 s.a, .bool false, s.h, .int .i64 s.k] ∧ V.size t0 = 1 ∧ V.size t1 = 1 := by
      rcases hk with e | e <;> subst e
      · exact ⟨.sli .u8 bb, s.s1, by simp [VS.put, VS.val, hd], rfl, g1⟩
      · exact ⟨s.s0, .sli .u8 bb, by simp [VS.put, VS.val, hd], g0, rfl⟩
    rw [hval] at h ⊢
    have hv1 : Abs.look (upd G s.id (.agg [.int .i64 s.i, .agg [t0, t1], .ptr s.c, .int .i64 s.a, .bool false, s.h, .int .i64 s.k])) s.id = some (.agg [.int .i64 s.i, .agg [t0, t1], .ptr s.c, .int .i64 s.a, .bool false, s.h, .int .i64 s.k]) := look_upd_same hv
    have hc1 : Abs.look (upd G s.id (.agg [.int .i64 s.i, .agg [t0, t1], .ptr s.c, .int .i64 s.a, .bool false, s.h, .int .i64 s.k])) s.c = some (CT s.n true) := by rw [look_upd_ne hne]; exact hc
    generalize upd G s.id (.agg [.int .i64 s.i, .agg [t0, t1], .ptr s.c, .int .i64 s.a, .bool false, s.h, .int .i64 s.k]) = G1 at *
    simp (maxSteps := 1000000) (implicitDefEqProofs := false) only [h7, S28_eq, hv1, ht0, ht1, go_sem, ↓reduceIte, decide_eq_true_eq, decide_eq_false_iff_not, ge_iff_le, gt_iff_lt, Int.not_le, Int.not_lt, Bool.not_eq_true', Bool.not_eq_false', Bool.and_eq_true, Bool.and_eq_false_iff]
    refine ⟨s.n, true, ⟨.inr ⟨s.c, rfl, hc1⟩, fun _ => hok⟩, ?_⟩
    have e1 : upE s.n true = 0 := by unfold upE; rw [if_pos rfl, if_neg (by omega)]
    have e2 : upA s.n true = s.n + 1 := by unfold upA; rw [if_pos rfl, if_neg (by omega)]
    rw [e1, e2]
    exact h
theorem walk19 {kt : List Int} {x : V} (h1 : Abs.look l 42 = some SIs) (h3 : Abs.look l 24 = some SVat) (h4 : Abs.look l 49 = some (SBg kt)) (hh : SLd kt [x] G Q) : Wf E (specOf l) pf19 [x] G Q := by
  rcases hh with ⟨hn, h⟩ | ⟨s, b0, b1, ⟨hs, hd, z0, z1, ⟨y0, y1⟩, l0, l1⟩, h⟩
  · simp (maxSteps := 1000000) (implicitDefEqProofs := false) only [pf19, h1, SIs_eq, go_sem, ↓reduceIte, decide_eq_true_eq, decide_eq_false_iff_not, ge_iff_le, gt_iff_lt, Int.not_le, Int.not_lt, Bool.not_eq_true', Bool.not_eq_false', Bool.and_eq_true, Bool.and_eq_false_iff]
    refine ⟨false, .inl ⟨hn, rfl⟩, ?_⟩
    try simp (maxSteps := 1000000) (implicitDefEqProofs := false) only [go_sem, ↓reduceIte, decide_eq_true_eq, decide_eq_false_iff_not, ge_iff_le, gt_iff_lt, Int.not_le, Int.not_lt, Bool.not_eq_true', Bool.not_eq_false', Bool.and_eq_true, Bool.and_eq_false_iff]
    exact h
  · have hs' := hs
    obtain ⟨rfl, hv, hc, hne, hok, _, _⟩ := hs
    have g0 := (by_size z0).1
    have g1 := (by_size z1).1
    unfold VS.val at hv
    rw [hd] at hv
    simp (maxSteps := 1000000) (implicitDefEqProofs := false) only [pf19, h1, SIs_eq, h3, SVat_eq, h4, SBg_eq, hv, g0, g1, go_sem, ↓reduceIte, decide_eq_true_eq, decide_eq_false_iff_not, ge_iff_le, gt_iff_lt, Int.not_le, Int.not_lt, Bool.not_eq_true', Bool.not_eq_false', Bool.and_eq_true, Bool.and_eq_false_iff]
    refine ⟨true, .inr ⟨s, hs', rfl⟩, ?_⟩
    simp (maxSteps := 1000000) (implicitDefEqProofs := false) only [h3, SVat_eq, h4, SBg_eq, hv, g0, g1, go_sem, ↓reduceIte, decide_eq_true_eq, decide_eq_false_iff_not, ge_iff_le, gt_iff_lt, Int.not_le, Int.not_lt, Bool.not_eq_true', Bool.not_eq_false', Bool.and_eq_true, Bool.and_eq_false_iff]
    refine ⟨s.n, .inr ⟨s, hs', rfl⟩, fun hz => ?_, fun hz => ⟨3, ?_⟩⟩
    · have := h G (Ext.refl G)
      have e : loadV kt s.i s.n b0 b1 = (.zero, 0) := by unfold loadV; rw [if_pos hz]
      rw [e] at this
      exact this
    have sza := eq_true (two_sza (by_size z0) (by_size z1))
    simp (maxSteps := 1000000) (implicitDefEqProofs := false) only [go_sem, ↓reduceIte, decide_eq_true_eq, decide_eq_false_iff_not, ge_iff_le, gt_iff_lt, Int.not_le, Int.not_lt, Bool.not_eq_true', Bool.not_eq_false', Bool.and_eq_true, Bool.and_eq_false_iff]
    refine WL_in lp19_0.eq_1 ?_
    simp (maxSteps := 1000000) (implicitDefEqProofs := false) only [h3, SVat_eq, h4, SBg_eq, hv, g0, g1, go_sem, ↓reduceIte, decide_eq_true_eq, decide_eq_false_iff_not, ge_iff_le, gt_iff_lt, Int.not_le, Int.not_lt, Bool.not_eq_true', Bool.not_eq_false', Bool.and_eq_true, Bool.and_eq_false_iff]
    refine ⟨two_sza (by_size z0) (by_size z1), b0, ⟨z0, y0, l0⟩, fun id hid => ?_⟩
    have hx1 := Ext.cons (x := (rdBlob (b0, false)).2.2.2.v) hid
    rcases hg : getBlob kt s.i b0 with ⟨v, ⟨q1, q2, q3, q4⟩, e⟩
    have hgR : getR (v, ⟨q1, q2, q3, q4⟩, e) = .tup [.int .i64 v, .agg [.int .i64 q1, .int .i64 q2, .int .i64 q3, .arr .u8 32 q4], .int .i64 e] := rfl
    rw [hgR]
    simp (maxSteps := 1000000) (implicitDefEqProofs := false) only [h3, SVat_eq, h4, SBg_eq, hv, g0, g1, go_sem, ↓reduceIte, decide_eq_true_eq, decide_eq_false_iff_not, ge_iff_le, gt_iff_lt, Int.not_le, Int.not_lt, Bool.not_eq_true', Bool.not_eq_false', Bool.and_eq_true, Bool.and_eq_false_iff]
    have at1 := hs'.ext hx1
    by_cases c1 : e = 0 ∧ v = s.n
    · have := h _ hx1
      have el : loadV kt s.i s.n b0 b1 = (⟨q1, q2, q3, q4⟩, 0) := by unfold loadV; rw [if_neg hz, hg, if_pos c1]
      rw [el] at this
      exact ⟨fun _ => ⟨s.n, .inr ⟨s, at1, rfl⟩, fun _ => this, fun c => absurd c1.2 c⟩, fun c => absurd c1.1 c⟩
    have hv1 := at1.v
    unfold VS.val at hv1
    rw [hd] at hv1
    have h : ∀ G', Ext ((id, (rdBlob (b0, false)).2.2.2.v) :: G) G' → Q (.tup [(loadV kt s.i s.n b0 b1).1.v, .int .i64 (loadV kt s.i s.n b0 b1).2]) G' := fun G' hG => h G' (hx1.trans hG)
    have el : loadV kt s.i s.n b0 b1 = if (getBlob kt s.i b1).2.2 = 0 ∧ (getBlob kt s.i b1).1 = s.n then ((getBlob kt s.i b1).2.1, 0) else (.zero, 8) := by unfold loadV; rw [if_neg hz, hg, if_neg c1]
    rw [el] at h
    have w1 : IntKind.i64.wrap 1 = 1 := by decide
    have w2 : IntKind.i64.wrap 2 = 2 := by decide
    refine ⟨fun c => ⟨s.n, .inr ⟨s, at1, rfl⟩, fun c2 => absurd ⟨c, c2⟩ c1, fun _ => ?_⟩, fun c => ?_⟩
    all_goals
      generalize (id, (rdBlob (b0, false)).2.2.2.v) :: G = G1 at *
      refine WL_in lp19_0.eq_1 ?_
      simp (maxSteps := 1000000) (implicitDefEqProofs := false) only [h3, SVat_eq, h4, SBg_eq, hv1, g0, g1, w1, w2, go_sem, ↓reduceIte, decide_eq_true_eq, decide_eq_false_iff_not, ge_iff_le, gt_iff_lt, Int.not_le, Int.not_lt, Bool.not_eq_true', Bool.not_eq_false', Bool.and_eq_true, Bool.and_eq_false_iff]
      refine ⟨two_sza (by_size z0) (by_size z1), b1, ⟨z1, y1, l1⟩, fun id2 hid2 => ?_⟩
      have hx2 := Ext.cons (x := (rdBlob (b1, false)).2.2.2.v) hid2
      rcases hg2 : getBlob kt s.i b1 with ⟨v', ⟨p1, p2, p3, p4⟩, e'⟩
      have hgR2 : getR (v', ⟨p1, p2, p3, p4⟩, e') = .tup [.int .i64 v', .agg [.int .i64 p1, .int .i64 p2, .int .i64 p3, .arr .u8 32 p4], .int .i64 e'] := rfl
      rw [hgR2]
      simp (maxSteps := 1000000) (implicitDefEqProofs := false) only [h3, SVat_eq, h4, SBg_eq, hv1, g0, g1, w1, w2, go_sem, ↓reduceIte, decide_eq_true_eq, decide_eq_false_iff_not, ge_iff_le, gt_iff_lt, Int.not_le, Int.not_lt, Bool.not_eq_true', Bool.not_eq_false', Bool.and_eq_true, Bool.and_eq_false_iff]
      have at2 := at1.ext hx2
      have h := h _ hx2
      rw [hg2] at h
      by_cases c2 : e' = 0 ∧ v' = s.n
      · rw [if_pos c2] at h
        exact ⟨fun _ => ⟨s.n, .inr ⟨s, at2, rfl⟩, fun _ => h, fun c => absurd c2.2 c⟩, fun c => absurd c2.1 c⟩
      · rw [if_neg c2] at h
        generalize (id2, (rdBlob (b1, false)).2.2.2.v) :: G1 = G2 at *
        refine ⟨fun c => ⟨s.n, .inr ⟨s, at2, rfl⟩, fun c3 => absurd ⟨c, c3⟩ c2, fun _ => ?_⟩, fun c => ?_⟩
        all_goals
          refine WL_in lp19_0.eq_1 ?_
          simp (maxSteps := 1000000) (implicitDefEqProofs := false) only [w1, w2, go_sem, ↓reduceIte, decide_eq_true_eq, decide_eq_false_iff_not, ge_iff_le, gt_iff_lt, Int.not_le, Int.not_lt, Bool.not_eq_true', Bool.not_eq_false', Bool.and_eq_true, Bool.and_eq_false_iff]
          exact h
end Go.Proofs.YtjbglbhcbenhpaaDoor.Sha
