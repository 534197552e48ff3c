/- The vault: what all its functions do. -/
import Derived.Test.YtjbglbhcbenhpaaDoorTVlt3
import Derived.Test.YtjbglbhcbenhpaaDoorTSha8
namespace Go.Proofs.YtjbglbhcbenhpaaDoor.Sha
open Go Go.Abs Go.Abs.Sha
set_option linter.unusedSimpArgs false
set_option linter.unusedVariables false
set_option maxRecDepth 100000
def pf89 : PF :=
  PF.mk 2 5 27 ((PC.reg [nn (.v 4) (.mv true (.c (.own .nils)))]).seq (((PC.reg [mm 5 1, nn (.t 6) (.bin .lss (.t 5) (.c (.v (.int .i64 0))))]).seq
    (PC.cond (.t 6) (PC.reg [nn (.t 7) (.bad), nn .no (.bad)]) PC.skip)).seq (((PC.reg [mm 8 1, mm 9 0, nn (.t 10) (.capN (.t 9)), mm 11 0, nn (.t 12)
    (.len (.t 11)), nn (.t 13) (.bin .sub (.t 10) (.t 12)), nn (.t 14) (.bin .sub (.t 8) (.t 13)), ma 1 14]).seq ((PC.reg [mm 15 1, nn (.t 16) (.bin .gtr
    (.t 15) (.c (.v (.int .i64 0))))]).seq (PC.cond (.t 16) (PC.reg [mm 17 0, mm 18 0, nn (.t 19) (.capN (.t 18)), nn (.t 20) (.slcS 1 (.t 17) none (some
    (.t 19)) none), mm 21 1, nn (.t 22) (.appG (some .u8) 1 1 (.int .u8 0) (.t 20) (.t 21)), mm 23 0, nn (.t 24) (.len (.t 23)), nn (.t 25) (.cutG 1 (.t
    22) (.t 24)), ma 0 25]) PC.skip))).seq ((PC.reg [nn (.t 26) (.mv true (.v 0)), ma 4 26]).seq PC.ret)))) [(.v 4, none)]
def lp48_0 : PC :=
  (PC.reg [nn (.t 28) (.bin .lss (.v 27) (.v 26))]).seq ((PC.cond (.t 28) PC.skip (PC.exit 2)).seq ((PC.block 3 ((PC.reg [nn (.t 29) (.iadrS 1 (.v 25)
    (.v 27)), nn (.t 30) (.load 1 false (.t 29)), ma 8 30]).seq (PC.reg [nn (.t 31) (.mv true (.v 6)), mm 32 8, nn (.t 33) (.app (some .u8) 1 1 (.t 31)
    (.t 32)), ma 6 33]))).seq (PC.reg [nn (.t 34) (.bin .add (.v 27) (.c (.v (.int .i64 1)))), nn (.v 27) (.mv false (.t 34))])))
def lp48_1 : PC :=
  (PC.reg [nn (.v 12) (.bin .lss (.v 11) (.v 10))]).seq ((PC.cond (.v 12) PC.skip (PC.exit 0)).seq ((PC.block 1 ((PC.reg [nn (.v 13) (.iadrS 1 (.v 9) (.v
    11)), nn (.v 14) (.load 1 false (.v 13)), nn (.v 5) (.mv true (.v 14))]).seq ((PC.reg [nn (.v 15) (.mv false (.v 3)), nn (.v 16) (.mv false (.v 5)),
    nn (.v 17) (.len (.v 16)), nn (.v 18) (.bin .add (.v 15) (.v 17)), nn (.v 3) (.mv true (.v 18))]).seq ((PC.reg [nn (.v 19) (.mv false (.v 3)), nn (.v
    20) (.bin .lss (.v 19) (.c (.v (.int .i64 0))))]).seq (PC.cond (.v 20) (PC.reg [nn (.v 21) (.bad), nn .no (.bad)]) PC.skip))))).seq (PC.reg [nn (.v
    22) (.bin .add (.v 11) (.c (.v (.int .i64 1)))), nn (.v 11) (.mv false (.v 22))])))
def pf48 : PF :=
  PF.mk 1 28 36 ((PC.reg [nn (.v 2) (.mv true (.c (.own .nils)))]).seq ((PC.reg [nn (.v 3) (.mv true (.c (.v (.int .i64 0))))]).seq (((PC.reg [nn (.v 9)
    (.mv false (.v 0)), nn (.v 10) (.len (.v 9)), nn (.v 11) (.mv false (.c (.v (.int .i64 0))))]).seq (PC.block 0 (PC.loop [0, 3, 9, 10, 11]
    lp48_1))).seq ((PC.reg [nn (.v 23) (.mv false (.v 3)), nn (.v 24) (.call 89 [.c (.own .nils), .v 23]), nn (.v 6) (.mv true (.v 24))]).seq (((PC.reg
    [nn (.v 25) (.mv false (.v 0)), nn (.v 26) (.len (.v 25)), nn (.v 27) (.mv false (.c (.v (.int .i64 0))))]).seq (PC.block 2 (PC.loop [6, 25, 26, 27]
    lp48_0))).seq ((PC.reg [nn (.t 35) (.mv true (.v 6)), ma 2 35]).seq PC.ret)))))) [(.v 2, none)]
attribute [local irreducible] W Wops WopsD WL Wop WopD
variable {E : Env} {C : Abs.Spec} {l : List (Nat × Spec1)} {G : List (Nat × V)} {Q : R → List (Nat × V) → Prop}
set_option maxHeartbeats 1000000
def SGrb : Spec1
  | [.nils, .int .i64 n], G, Q => (0 ≤ n ∧ n < 1000000000000) ∧ Q (if n = 0 then .own .nils else .own (.sli .u8 [])) G
  | _, _, _ => False
theorem SGrb_eq {n} : SGrb [.nils, .int .i64 n] G Q = ((0 ≤ n ∧ n < 1000000000000) ∧ Q (if n = 0 then .own .nils else .own (.sli .u8 [])) G) := rfl
def SCb : Spec1
  | [.sle 1 [.sli .u8 a, y]], G, Q => ∃ b, (byV y = some b ∧ a.length < 100000000000 ∧ b.length < 100000000000) ∧ Q (.own (.sli .u8 (a ++ b))) G
  | _, _, _ => False
theorem SCb_eq {a y} : SCb [.sle 1 [.sli .u8 a, y]] G Q = (∃ b, (byV y = some b ∧ a.length < 100000000000 ∧ b.length < 100000000000) ∧ Q (.own (.sli .u8 (a ++ b))) G) := rfl
/-- A nil slice that comes back is one's own. -/
def ownR : R → R
  | .v .nils => .own .nils
  | r => r
theorem Ret.own {E g vs G Q} (h : Ret E g vs G (fun r G' => Q (ownR r) G')) : Ret E g vs G Q := by
  intro Mc B w args hs ha hr
  refine Calls.mono (h Mc B w args hs ha hr) ?_
  rintro e W' ⟨v, r, G', m', h1, h2, h3, h4⟩
  refine ⟨v, ownR r, G', m', h1, h2, h3, ?_⟩
  cases r with
  | v x =>
    cases x <;> try exact h4
    have hv : v = .slice none 0 0 := by
      have h5 : RepW W' _ .nils v := h4
      simpa [RepW, V.isAgg, RepV] using h5
    subst hv
    exact ⟨h4, 0, none, 0, rfl, .inl rfl⟩
  | own x => exact h4
  | tup l => exact h4
/-- A step is counted. -/
def stepS (s : VS) : VS × Bool := if s.a = 0 then ({ s with d := true }, false) else if 0 < s.a then ({ s with a := s.a - 1 }, true) else (s, true)
def setG (G : List (Nat × V)) (s : VS) : List (Nat × V) := upd (upd G s.id s.val) s.c (CT s.n true)
/-- A vault whose half blob, slot and steps are as they may be. -/
structure VS.good (s : VS) : Prop where
  h : ∃ b, byV s.h = some b ∧ b.length ≤ 1000 ∧ Byt b
  k : s.k = 0 ∨ s.k = 1
  a : -1 ≤ s.a ∧ s.a ≤ 9223372036854775807
  i : 1 ≤ s.i ∧ s.i ≤ 21
  z0 : ∃ b, byV s.s0 = some b ∧ b.length ≤ 1000 ∧ Byt b
  z1 : ∃ b, byV s.s1 = some b ∧ b.length ≤ 1000 ∧ Byt b
theorem setG_same {s : VS} {G : List (Nat × V)} {x : V} (h : s.at G x) : setG G s = G := by
  unfold setG; rw [upd_self h.v, upd_self h.c]
theorem setG_one {s t : VS} {G : List (Nat × V)} {x : V} (h : s.at G x) (e1 : t.id = s.id) (e2 : t.c = s.c) (e3 : t.n = s.n) : setG G t = upd G s.id t.val := by
  unfold setG; rw [e1, e2, e3]
  exact upd_self (by rw [look_upd_ne h.ne]; exact h.c)
theorem at_setG {s t : VS} {G : List (Nat × V)} {x : V} (h : s.at G x) (e1 : t.id = s.id) (e2 : t.c = s.c) (hn : okC t.n) (z0 : ∃ b, byV t.s0 = some b) (z1 : ∃ b, byV t.s1 = some b) : t.at (setG G t) x := by
  have hne : t.c ≠ t.id := by rw [e1, e2]; exact h.ne
  refine ⟨by rw [e1]; exact h.x, ?_, ?_, hne, hn, z0, z1⟩
  · unfold setG; rw [look_upd_ne hne.symm, e1]; exact look_upd_same h.v
  · unfold setG; rw [e2]; exact look_upd_same (by rw [e1, look_upd_ne h.ne]; exact h.c)
theorem setG_setG {s t : VS} {G : List (Nat × V)} (e1 : t.id = s.id) (e2 : t.c = s.c) (hne : s.c ≠ s.id) : setG (setG G s) t = setG G t := by
  have comm : ∀ {α : Type} {G : List (Nat × α)} {i j : Nat} {x y : α}, i ≠ j → upd (upd G i x) j y = upd (upd G j y) i x := by
    intro α G i j x y hij
    induction G with
    | nil => rfl
    | cons p G ih =>
      obtain ⟨k, d⟩ := p
      by_cases ei : i = k
      · subst ei
        have : (j == i) = false := by simpa using fun e => hij e.symm
        simp [upd, this]
      · have h1 : (i == k) = false := by simpa using ei
        by_cases ej : j = k
        · subst ej; simp [upd, h1]
        · have h2 : (j == k) = false := by simpa using ej
          simp only [upd, h1, h2, cond_false, ih]
  unfold setG
  rw [e1, e2, comm hne, upd_upd, upd_upd]
def SSt2 : Spec1
  | [x], G, Q => ∃ s : VS, (s.at G x ∧ s.good) ∧ Q (.v (.bool (stepS s).2)) (setG G (stepS s).1)
  | _, _, _ => False
theorem SSt2_eq {x} : SSt2 [x] G Q = (∃ s : VS, (s.at G x ∧ s.good) ∧ Q (.v (.bool (stepS s).2)) (setG G (stepS s).1)) := rfl
def SWr2 : Spec1
  | [x, .int .i64 k, .sli .u8 b], G, Q => ∃ s : VS, (s.at G x ∧ s.good ∧ (k = 0 ∨ k = 1)) ∧ Q (.v (.bool (stepS s).2)) (setG G (if (stepS s).2 = true then (stepS s).1.put k (.sli .u8 b) else { (stepS s).1 with h := .sli .u8 b, k := k }))
  | _, _, _ => False
theorem SWr2_eq {x k b} : SWr2 [x, .int .i64 k, .sli .u8 b] G Q = (∃ s : VS, (s.at G x ∧ s.good ∧ (k = 0 ∨ k = 1)) ∧ Q (.v (.bool (stepS s).2)) (setG G (if (stepS s).2 = true then (stepS s).1.put k (.sli .u8 b) else { (stepS s).1 with h := .sli .u8 b, k := k }))) := rfl
def SArm2 : Spec1
  | [x, .int .i64 m], G, Q => (NB G x ∧ Q (.tup []) G) ∨ ∃ s : VS, (s.at G x ∧ s.good) ∧ Q (.tup []) (setG G { s with a := if m < -1 then -1 else m })
  | _, _, _ => False
theorem SArm2_eq {x m} : SArm2 [x, .int .i64 m] G Q = ((NB G x ∧ Q (.tup []) G) ∨ ∃ s : VS, (s.at G x ∧ s.good) ∧ Q (.tup []) (setG G { s with a := if m < -1 then -1 else m })) := rfl
theorem walk89 {n : Int} (hn : 0 ≤ n ∧ n < 1000000000000) (h : Q (if n = 0 then .own .nils else .own (.sli .u8 [])) G) : Wf E C pf89 [.nils, .int .i64 n] G (fun r G' => Q (ownR r) G') := by
  have h1 : ¬ n < 0 := by omega
  have e1 : IntKind.i64.wrap 0 = 0 := by decide
  have e2 : IntKind.i64.wrap (n - 0) = n := by rw [w64 (by omega) (by omega)]; omega
  by_cases hz : n = 0
  · subst hz
    rw [if_pos rfl] at h
    simp (maxSteps := 1000000) (implicitDefEqProofs := false) only [pf89, h1, e1, e2, go_sem, ↓reduceIte, decide_eq_true_eq, decide_eq_false_iff_not, ge_iff_le, gt_iff_lt, Int.not_le, Int.not_lt, Bool.not_eq_true', Bool.not_eq_false', Bool.and_eq_true, Bool.and_eq_false_iff]
    exact h
  · rw [if_neg hz] at h
    have h2 : 0 < n := by omega
    simp (maxSteps := 1000000) (implicitDefEqProofs := false) only [pf89, h1, e1, e2, h2, go_sem, ↓reduceIte, decide_eq_true_eq, decide_eq_false_iff_not, ge_iff_le, gt_iff_lt, Int.not_le, Int.not_lt, Bool.not_eq_true', Bool.not_eq_false', Bool.and_eq_true, Bool.and_eq_false_iff]
    exact ⟨by omega, h⟩
theorem walk246 {x : V} {s : VS} (hs : s.at G x) (hg : s.good) (h : Q (.v (.bool (stepS s).2)) (setG G (stepS s).1)) : Wf E C pf46 [x] G Q := by
  have hs' := hs
  obtain ⟨rfl, hv, hc, hne, hok, ⟨b0, z0⟩, ⟨b1, z1⟩⟩ := hs
  obtain ⟨g0, _⟩ := by_size z0
  obtain ⟨g1, _⟩ := by_size z1
  unfold VS.val at hv
  unfold stepS at h
  by_cases c0 : s.a = 0
  · simp only [if_pos c0] at h
    rw [setG_one (t := { s with d := true }) hs' rfl rfl rfl] at h
    simp (maxSteps := 1000000) (implicitDefEqProofs := false) only [pf46, hv, g0, g1, c0, go_sem, ↓reduceIte, decide_eq_true_eq, decide_eq_false_iff_not, ge_iff_le, gt_iff_lt, Int.not_le, Int.not_lt, Bool.not_eq_true', Bool.not_eq_false', Bool.and_eq_true, Bool.and_eq_false_iff]
    rw [c0] at h
    exact h
  · simp only [if_neg c0] at h
    by_cases c1 : 0 < s.a
    · simp only [if_pos c1] at h
      rw [setG_one (t := { s with a := s.a - 1 }) hs' rfl rfl rfl] at h
      have := hg.a
      have ew : IntKind.i64.wrap (s.a - 1) = s.a - 1 := w64 (by omega) (by omega)
      simp (maxSteps := 1000000) (implicitDefEqProofs := false) only [pf46, hv, g0, g1, c0, c1, ew, go_sem, ↓reduceIte, decide_eq_true_eq, decide_eq_false_iff_not, ge_iff_le, gt_iff_lt, Int.not_le, Int.not_lt, Bool.not_eq_true', Bool.not_eq_false', Bool.and_eq_true, Bool.and_eq_false_iff]
      exact h
    · simp only [if_neg c1] at h
      rw [setG_same hs'] at h
      simp (maxSteps := 1000000) (implicitDefEqProofs := false) only [pf46, hv, g0, g1, c0, c1, go_sem, ↓reduceIte, decide_eq_true_eq, decide_eq_false_iff_not, ge_iff_le, gt_iff_lt, Int.not_le, Int.not_lt, Bool.not_eq_true', Bool.not_eq_false', Bool.and_eq_true, Bool.and_eq_false_iff]
      exact h
theorem walk217 {x : V} {n : Int} (h1 : Abs.look l 42 = some SIs) (hh : SArm2 [x, .int .i64 n] G Q) : Wf E (specOf l) pf17 [x, .int .i64 n] G Q := by
  rcases hh with ⟨hx, h⟩ | ⟨s, ⟨hs, hg⟩, h⟩
  · simp (maxSteps := 1000000) (implicitDefEqProofs := false) only [pf17, h1, SIs_eq, go_sem, ↓reduceIte, decide_eq_true_eq, decide_eq_false_iff_not, ge_iff_le, gt_iff_lt, Int.not_le, Int.not_lt, Bool.not_eq_true', Bool.not_eq_false', Bool.and_eq_true, Bool.and_eq_false_iff]
    refine ⟨false, .inl ⟨hx, rfl⟩, ?_⟩
    try simp (maxSteps := 1000000) (implicitDefEqProofs := false) only [go_sem, ↓reduceIte, decide_eq_true_eq, decide_eq_false_iff_not, ge_iff_le, gt_iff_lt, Int.not_le, Int.not_lt, Bool.not_eq_true', Bool.not_eq_false', Bool.and_eq_true, Bool.and_eq_false_iff]
    exact h
  · have hs' := hs
    obtain ⟨rfl, hv, hc, hne, hok, ⟨b0, z0⟩, ⟨b1, z1⟩⟩ := hs
    obtain ⟨g0, _⟩ := by_size z0
    obtain ⟨g1, _⟩ := by_size z1
    unfold VS.val at hv
    rw [setG_one (t := { s with a := if n < -1 then -1 else n }) hs' rfl rfl rfl] at h
    simp (maxSteps := 1000000) (implicitDefEqProofs := false) only [pf17, h1, SIs_eq, hv, g0, g1, go_sem, ↓reduceIte, decide_eq_true_eq, decide_eq_false_iff_not, ge_iff_le, gt_iff_lt, Int.not_le, Int.not_lt, Bool.not_eq_true', Bool.not_eq_false', Bool.and_eq_true, Bool.and_eq_false_iff]
    refine ⟨true, .inr ⟨s, hs', rfl⟩, ?_⟩
    try simp (maxSteps := 1000000) (implicitDefEqProofs := false) only [go_sem, ↓reduceIte, decide_eq_true_eq, decide_eq_false_iff_not, ge_iff_le, gt_iff_lt, Int.not_le, Int.not_lt, Bool.not_eq_true', Bool.not_eq_false', Bool.and_eq_true, Bool.and_eq_false_iff]
    exact h
theorem walk48 {y : V} {a b : List Int} (h89 : Abs.look l 89 = some SGrb) (hy : byV y = some b) (ha : a.length < 100000000000) (hb : b.length < 100000000000) (h : Q (.own (.sli .u8 (a ++ b))) G) : Wf E (specOf l) pf48 [.sle 1 [.sli .u8 a, y]] G (fun r G' => Q (wkR .u8 r) G') := by
  have w1 : IntKind.i64.wrap 1 = 1 := by decide
  have w2 : IntKind.i64.wrap 2 = 2 := by decide
  have e1 : IntKind.i64.wrap (0 + (a.length : Int)) = (a.length : Int) := by rw [w64 (by omega) (by omega)]; omega
  have e2 : IntKind.i64.wrap ((a.length : Int) + (b.length : Int)) = ((a.length + b.length : Nat) : Int) := by rw [w64 (by omega) (by omega)]; simp
  have l2 : V.lenI y = some (b.length : Int) := by rcases byV_cases hy with rfl | ⟨rfl, rfl⟩ <;> rfl
  have n1 : ¬ (a.length : Int) < 0 := by omega
  have n2 : ¬ ((a.length + b.length : Nat) : Int) < 0 := by omega
  have p0 : IntKind.i64.wrap (0 + 0) = 0 := by decide
  have p1 : IntKind.i64.wrap (0 + (b.length : Int)) = (b.length : Int) := by rw [w64 (by omega) (by omega)]; omega
  have p2 : IntKind.i64.wrap ((a.length : Int) + 0) = (a.length : Int) := by rw [w64 (by omega) (by omega)]; omega
  have n3 : ¬ (b.length : Int) < 0 := by omega
  rcases byV_cases hy with rfl | ⟨rfl, rfl⟩
  · simp (maxSteps := 1000000) (implicitDefEqProofs := false) only [pf48, go_sem, ↓reduceIte, decide_eq_true_eq, decide_eq_false_iff_not, ge_iff_le, gt_iff_lt, Int.not_le, Int.not_lt, Bool.not_eq_true', Bool.not_eq_false', Bool.and_eq_true, Bool.and_eq_false_iff]
    refine ⟨3, ?_⟩
    simp (maxSteps := 1000000) (implicitDefEqProofs := false) only [go_sem, ↓reduceIte, decide_eq_true_eq, decide_eq_false_iff_not, ge_iff_le, gt_iff_lt, Int.not_le, Int.not_lt, Bool.not_eq_true', Bool.not_eq_false', Bool.and_eq_true, Bool.and_eq_false_iff]
    refine WL_in lp48_1.eq_1 ?_
    simp (maxSteps := 1000000) (implicitDefEqProofs := false) only [w1, w2, e1, n1, go_sem, ↓reduceIte, decide_eq_true_eq, decide_eq_false_iff_not, ge_iff_le, gt_iff_lt, Int.not_le, Int.not_lt, Bool.not_eq_true', Bool.not_eq_false', Bool.and_eq_true, Bool.and_eq_false_iff]
    refine WL_in lp48_1.eq_1 ?_
    simp (maxSteps := 1000000) (implicitDefEqProofs := false) only [w1, w2, e2, n2, go_sem, ↓reduceIte, decide_eq_true_eq, decide_eq_false_iff_not, ge_iff_le, gt_iff_lt, Int.not_le, Int.not_lt, Bool.not_eq_true', Bool.not_eq_false', Bool.and_eq_true, Bool.and_eq_false_iff]
    refine WL_in lp48_1.eq_1 ?_
    simp (maxSteps := 1000000) (implicitDefEqProofs := false) only [w1, w2, h89, SGrb_eq, go_sem, ↓reduceIte, decide_eq_true_eq, decide_eq_false_iff_not, ge_iff_le, gt_iff_lt, Int.not_le, Int.not_lt, Bool.not_eq_true', Bool.not_eq_false', Bool.and_eq_true, Bool.and_eq_false_iff]
    refine ⟨⟨by omega, by omega⟩, ?_⟩
    by_cases hz : ((a.length + b.length : Nat) : Int) = 0
    · rw [if_pos hz]
      obtain rfl : a = [] := List.eq_nil_of_length_eq_zero (by omega)
      obtain rfl : b = [] := List.eq_nil_of_length_eq_zero (by simpa using hz)
      simp (maxSteps := 1000000) (implicitDefEqProofs := false) only [w1, w2, go_sem, ↓reduceIte, decide_eq_true_eq, decide_eq_false_iff_not, ge_iff_le, gt_iff_lt, Int.not_le, Int.not_lt, Bool.not_eq_true', Bool.not_eq_false', Bool.and_eq_true, Bool.and_eq_false_iff]
      refine ⟨3, ?_⟩
      simp (maxSteps := 1000000) (implicitDefEqProofs := false) only [go_sem, ↓reduceIte, decide_eq_true_eq, decide_eq_false_iff_not, ge_iff_le, gt_iff_lt, Int.not_le, Int.not_lt, Bool.not_eq_true', Bool.not_eq_false', Bool.and_eq_true, Bool.and_eq_false_iff]
      refine WL_in lp48_0.eq_1 ?_
      simp (maxSteps := 1000000) (implicitDefEqProofs := false) only [w1, w2, go_sem, ↓reduceIte, decide_eq_true_eq, decide_eq_false_iff_not, ge_iff_le, gt_iff_lt, Int.not_le, Int.not_lt, Bool.not_eq_true', Bool.not_eq_false', Bool.and_eq_true, Bool.and_eq_false_iff]
      refine WL_in lp48_0.eq_1 ?_
      simp (maxSteps := 1000000) (implicitDefEqProofs := false) only [w1, w2, go_sem, ↓reduceIte, decide_eq_true_eq, decide_eq_false_iff_not, ge_iff_le, gt_iff_lt, Int.not_le, Int.not_lt, Bool.not_eq_true', Bool.not_eq_false', Bool.and_eq_true, Bool.and_eq_false_iff]
      refine WL_in lp48_0.eq_1 ?_
      simp (maxSteps := 1000000) (implicitDefEqProofs := false) only [w1, w2, go_sem, ↓reduceIte, decide_eq_true_eq, decide_eq_false_iff_not, ge_iff_le, gt_iff_lt, Int.not_le, Int.not_lt, Bool.not_eq_true', Bool.not_eq_false', Bool.and_eq_true, Bool.and_eq_false_iff]
      exact h
    · rw [if_neg hz]
      simp (maxSteps := 1000000) (implicitDefEqProofs := false) only [w1, w2, go_sem, ↓reduceIte, decide_eq_true_eq, decide_eq_false_iff_not, ge_iff_le, gt_iff_lt, Int.not_le, Int.not_lt, Bool.not_eq_true', Bool.not_eq_false', Bool.and_eq_true, Bool.and_eq_false_iff]
      refine ⟨3, ?_⟩
      simp (maxSteps := 1000000) (implicitDefEqProofs := false) only [go_sem, ↓reduceIte, decide_eq_true_eq, decide_eq_false_iff_not, ge_iff_le, gt_iff_lt, Int.not_le, Int.not_lt, Bool.not_eq_true', Bool.not_eq_false', Bool.and_eq_true, Bool.and_eq_false_iff]
      refine WL_in lp48_0.eq_1 ?_
      simp (maxSteps := 1000000) (implicitDefEqProofs := false) only [w1, w2, go_sem, ↓reduceIte, decide_eq_true_eq, decide_eq_false_iff_not, ge_iff_le, gt_iff_lt, Int.not_le, Int.not_lt, Bool.not_eq_true', Bool.not_eq_false', Bool.and_eq_true, Bool.and_eq_false_iff]
      refine ⟨by omega, ?_⟩
      refine WL_in lp48_0.eq_1 ?_
      simp (maxSteps := 1000000) (implicitDefEqProofs := false) only [w1, w2, go_sem, ↓reduceIte, decide_eq_true_eq, decide_eq_false_iff_not, ge_iff_le, gt_iff_lt, Int.not_le, Int.not_lt, Bool.not_eq_true', Bool.not_eq_false', Bool.and_eq_true, Bool.and_eq_false_iff]
      refine ⟨by omega, ?_⟩
      refine WL_in lp48_0.eq_1 ?_
      simp (maxSteps := 1000000) (implicitDefEqProofs := false) only [w1, w2, go_sem, ↓reduceIte, decide_eq_true_eq, decide_eq_false_iff_not, ge_iff_le, gt_iff_lt, Int.not_le, Int.not_lt, Bool.not_eq_true', Bool.not_eq_false', Bool.and_eq_true, Bool.and_eq_false_iff]
      exact h
  · simp (maxSteps := 1000000) (implicitDefEqProofs := false) only [pf48, go_sem, ↓reduceIte, decide_eq_true_eq, decide_eq_false_iff_not, ge_iff_le, gt_iff_lt, Int.not_le, Int.not_lt, Bool.not_eq_true', Bool.not_eq_false', Bool.and_eq_true, Bool.and_eq_false_iff]
    refine ⟨3, ?_⟩
    simp (maxSteps := 1000000) (implicitDefEqProofs := false) only [go_sem, ↓reduceIte, decide_eq_true_eq, decide_eq_false_iff_not, ge_iff_le, gt_iff_lt, Int.not_le, Int.not_lt, Bool.not_eq_true', Bool.not_eq_false', Bool.and_eq_true, Bool.and_eq_false_iff]
    refine WL_in lp48_1.eq_1 ?_
    simp (maxSteps := 1000000) (implicitDefEqProofs := false) only [w1, w2, e1, n1, go_sem, ↓reduceIte, decide_eq_true_eq, decide_eq_false_iff_not, ge_iff_le, gt_iff_lt, Int.not_le, Int.not_lt, Bool.not_eq_true', Bool.not_eq_false', Bool.and_eq_true, Bool.and_eq_false_iff]
    refine WL_in lp48_1.eq_1 ?_
    simp (maxSteps := 1000000) (implicitDefEqProofs := false) only [w1, w2, p2, n1, go_sem, ↓reduceIte, decide_eq_true_eq, decide_eq_false_iff_not, ge_iff_le, gt_iff_lt, Int.not_le, Int.not_lt, Bool.not_eq_true', Bool.not_eq_false', Bool.and_eq_true, Bool.and_eq_false_iff]
    refine WL_in lp48_1.eq_1 ?_
    simp (maxSteps := 1000000) (implicitDefEqProofs := false) only [w1, w2, h89, SGrb_eq, go_sem, ↓reduceIte, decide_eq_true_eq, decide_eq_false_iff_not, ge_iff_le, gt_iff_lt, Int.not_le, Int.not_lt, Bool.not_eq_true', Bool.not_eq_false', Bool.and_eq_true, Bool.and_eq_false_iff]
    refine ⟨⟨by omega, by omega⟩, ?_⟩
    by_cases hz : (a.length : Int) = 0
    · rw [if_pos hz]
      obtain rfl : a = [] := List.eq_nil_of_length_eq_zero (by omega)
      skip
      simp (maxSteps := 1000000) (implicitDefEqProofs := false) only [w1, w2, go_sem, ↓reduceIte, decide_eq_true_eq, decide_eq_false_iff_not, ge_iff_le, gt_iff_lt, Int.not_le, Int.not_lt, Bool.not_eq_true', Bool.not_eq_false', Bool.and_eq_true, Bool.and_eq_false_iff]
      refine ⟨3, ?_⟩
      simp (maxSteps := 1000000) (implicitDefEqProofs := false) only [go_sem, ↓reduceIte, decide_eq_true_eq, decide_eq_false_iff_not, ge_iff_le, gt_iff_lt, Int.not_le, Int.not_lt, Bool.not_eq_true', Bool.not_eq_false', Bool.and_eq_true, Bool.and_eq_false_iff]
      refine WL_in lp48_0.eq_1 ?_
      simp (maxSteps := 1000000) (implicitDefEqProofs := false) only [w1, w2, go_sem, ↓reduceIte, decide_eq_true_eq, decide_eq_false_iff_not, ge_iff_le, gt_iff_lt, Int.not_le, Int.not_lt, Bool.not_eq_true', Bool.not_eq_false', Bool.and_eq_true, Bool.and_eq_false_iff]
      refine WL_in lp48_0.eq_1 ?_
      simp (maxSteps := 1000000) (implicitDefEqProofs := false) only [w1, w2, go_sem, ↓reduceIte, decide_eq_true_eq, decide_eq_false_iff_not, ge_iff_le, gt_iff_lt, Int.not_le, Int.not_lt, Bool.not_eq_true', Bool.not_eq_false', Bool.and_eq_true, Bool.and_eq_false_iff]
      refine WL_in lp48_0.eq_1 ?_
      simp (maxSteps := 1000000) (implicitDefEqProofs := false) only [w1, w2, go_sem, ↓reduceIte, decide_eq_true_eq, decide_eq_false_iff_not, ge_iff_le, gt_iff_lt, Int.not_le, Int.not_lt, Bool.not_eq_true', Bool.not_eq_false', Bool.and_eq_true, Bool.and_eq_false_iff]
      exact h
    · rw [if_neg hz]
      simp (maxSteps := 1000000) (implicitDefEqProofs := false) only [w1, w2, go_sem, ↓reduceIte, decide_eq_true_eq, decide_eq_false_iff_not, ge_iff_le, gt_iff_lt, Int.not_le, Int.not_lt, Bool.not_eq_true', Bool.not_eq_false', Bool.and_eq_true, Bool.and_eq_false_iff]
      refine ⟨3, ?_⟩
      simp (maxSteps := 1000000) (implicitDefEqProofs := false) only [go_sem, ↓reduceIte, decide_eq_true_eq, decide_eq_false_iff_not, ge_iff_le, gt_iff_lt, Int.not_le, Int.not_lt, Bool.not_eq_true', Bool.not_eq_false', Bool.and_eq_true, Bool.and_eq_false_iff]
      refine WL_in lp48_0.eq_1 ?_
      simp (maxSteps := 1000000) (implicitDefEqProofs := false) only [w1, w2, go_sem, ↓reduceIte, decide_eq_true_eq, decide_eq_false_iff_not, ge_iff_le, gt_iff_lt, Int.not_le, Int.not_lt, Bool.not_eq_true', Bool.not_eq_false', Bool.and_eq_true, Bool.and_eq_false_iff]
      refine ⟨by omega, ?_⟩
      refine WL_in lp48_0.eq_1 ?_
      simp (maxSteps := 1000000) (implicitDefEqProofs := false) only [w1, w2, go_sem, ↓reduceIte, decide_eq_true_eq, decide_eq_false_iff_not, ge_iff_le, gt_iff_lt, Int.not_le, Int.not_lt, Bool.not_eq_true', Bool.not_eq_false', Bool.and_eq_true, Bool.and_eq_false_iff]
      refine ⟨by omega, ?_⟩
      refine WL_in lp48_0.eq_1 ?_
      simp (maxSteps := 1000000) (implicitDefEqProofs := false) only [w1, w2, go_sem, ↓reduceIte, decide_eq_true_eq, decide_eq_false_iff_not, ge_iff_le, gt_iff_lt, Int.not_le, Int.not_lt, Bool.not_eq_true', Bool.not_eq_false', Bool.and_eq_true, Bool.and_eq_false_iff]
      rw [List.append_nil] at h
      exact h
end Go.Proofs.YtjbglbhcbenhpaaDoor.Sha
