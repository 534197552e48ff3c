/- Laws over plain values, and what functions of the program hand back; no conditions. -/
import Derived.Test.YtegamlopcdjiaaaDoorUSha7
namespace Go.Proofs.YtegamlopcdjiaaaDoor.Sha
open Go Go.Abs Go.Abs.Sha
set_option linter.unusedSimpArgs false
set_option linter.unusedVariables false
set_option maxRecDepth 100000
def pf118 : PF :=
  PF.mk 2 5 27 ((PC.reg [nn (.v 4) (.mv true (.c (.own .nils)))]).seq (((PC.reg [mm 5 1, nn (.t 6) (.bin .lss (.t 5) (.c (.v (.int .i64 0))))]).seq
    (PC.cond (.t 6) (PC.reg [nn (.t 7) (.bad), nn .no (.bad)]) PC.skip)).seq (((PC.reg [mm 8 1, mm 9 0, nn (.t 10) (.capN (.t 9)), mm 11 0, nn (.t 12)
    (.len (.t 11)), nn (.t 13) (.bin .sub (.t 10) (.t 12)), nn (.t 14) (.bin .sub (.t 8) (.t 13)), ma 1 14]).seq ((PC.reg [mm 15 1, nn (.t 16) (.bin .gtr
    (.t 15) (.c (.v (.int .i64 0))))]).seq (PC.cond (.t 16) (PC.reg [mm 17 0, mm 18 0, nn (.t 19) (.capN (.t 18)), nn (.t 20) (.slcS 1 (.t 17) none (some
    (.t 19)) none), mm 21 1, nn (.t 22) (.appG none 1 24 .nils (.t 20) (.t 21)), mm 23 0, nn (.t 24) (.len (.t 23)), nn (.t 25) (.cutG 1 (.t 22) (.t
    24)), ma 0 25]) PC.skip))).seq ((PC.reg [nn (.t 26) (.mv true (.v 0)), ma 4 26]).seq PC.ret)))) [(.v 4, none)]
def lp109_0 : PC :=
  (PC.reg [nn (.t 28) (.bin .lss (.v 27) (.v 26))]).seq ((PC.cond (.t 28) PC.skip (PC.exit 2)).seq ((PC.block 3 ((PC.reg [nn (.t 29) (.iadrS 1 (.v 25)
    (.v 27)), nn (.t 30) (.load 1 false (.t 29)), ma 8 30]).seq (PC.reg [nn (.t 31) (.mv true (.v 6)), mm 32 8, nn (.t 33) (.app none 1 24 (.t 31) (.t
    32)), ma 6 33]))).seq (PC.reg [nn (.t 34) (.bin .add (.v 27) (.c (.v (.int .i64 1)))), nn (.v 27) (.mv false (.t 34))])))
def lp109_1 : PC :=
  (PC.reg [nn (.v 12) (.bin .lss (.v 11) (.v 10))]).seq ((PC.cond (.v 12) PC.skip (PC.exit 0)).seq ((PC.block 1 ((PC.reg [nn (.v 13) (.iadrS 1 (.v 9) (.v
    11)), nn (.v 14) (.load 1 false (.v 13)), nn (.v 5) (.mv true (.v 14))]).seq ((PC.reg [nn (.v 15) (.mv false (.v 3)), nn (.v 16) (.mv false (.v 5)),
    nn (.v 17) (.len (.v 16)), nn (.v 18) (.bin .add (.v 15) (.v 17)), nn (.v 3) (.mv true (.v 18))]).seq ((PC.reg [nn (.v 19) (.mv false (.v 3)), nn (.v
    20) (.bin .lss (.v 19) (.c (.v (.int .i64 0))))]).seq (PC.cond (.v 20) (PC.reg [nn (.v 21) (.bad), nn .no (.bad)]) PC.skip))))).seq (PC.reg [nn (.v
    22) (.bin .add (.v 11) (.c (.v (.int .i64 1)))), nn (.v 11) (.mv false (.v 22))])))
def pf109 : PF :=
  PF.mk 1 28 36 ((PC.reg [nn (.v 2) (.mv true (.c (.own .nils)))]).seq ((PC.reg [nn (.v 3) (.mv true (.c (.v (.int .i64 0))))]).seq (((PC.reg [nn (.v 9)
    (.mv false (.v 0)), nn (.v 10) (.len (.v 9)), nn (.v 11) (.mv false (.c (.v (.int .i64 0))))]).seq (PC.block 0 (PC.loop [0, 3, 9, 10, 11]
    lp109_1))).seq ((PC.reg [nn (.v 23) (.mv false (.v 3)), nn (.v 24) (.call 118 [.c (.own .nils), .v 23]), nn (.v 6) (.mv true (.v 24))]).seq (((PC.reg
    [nn (.v 25) (.mv false (.v 0)), nn (.v 26) (.len (.v 25)), nn (.v 27) (.mv false (.c (.v (.int .i64 0))))]).seq (PC.block 2 (PC.loop [6, 25, 26, 27]
    lp109_0))).seq ((PC.reg [nn (.t 35) (.mv true (.v 6)), ma 2 35]).seq PC.ret)))))) [(.v 2, none)]
attribute [local irreducible] W Wops WopsD WL Wop WopD
variable {E : Env} {C : Abs.Spec} {l : List (Nat × Spec1)} {G : List (Nat × V)} {Q : R → List (Nat × V) → Prop}
set_option maxHeartbeats 1000000
def SGr : Spec1
  | [.nils, .int .i64 n], G, Q => (0 < n ∧ n < 1000000000000) ∧ Q (.own (.sle 1 [])) G
  | _, _, _ => False
theorem SGr_eq {n} : SGr [.nils, .int .i64 n] G Q = ((0 < n ∧ n < 1000000000000) ∧ Q (.own (.sle 1 [])) G) := rfl
def SCc : Spec1
  | [.sle 1 ps], G, Q => ∃ l, (catP ps = some l ∧ l ≠ [] ∧ l.length < 1000000000000 ∧ ps.length < 1000000000000) ∧ Q (.own (.sle 1 l)) G
  | _, _, _ => False
theorem SCc_eq {ps} : SCc [.sle 1 ps] G Q = (∃ l, (catP ps = some l ∧ l ≠ [] ∧ l.length < 1000000000000 ∧ ps.length < 1000000000000) ∧ Q (.own (.sle 1 l)) G) := rfl
theorem walk118 {n : Int} (hn : 0 < n ∧ n < 1000000000000) (h : Q (.own (.sle 1 [])) G) : Wf E C pf118 [.nils, .int .i64 n] G Q := by
  have h1 : ¬ n < 0 := by omega
  have e1 : IntKind.i64.wrap 0 = 0 := by decide
  have e2 : IntKind.i64.wrap (n - 0) = n := by rw [w64 (by omega) (by omega)]; omega
  have h2 : 0 < n := hn.1
  simp (maxSteps := 1000000) (implicitDefEqProofs := false) only [pf118, h1, e1, e2, h2, go_sem, ↓reduceIte]
  exact ⟨by omega, h⟩
theorem sizes109 {ps b : List V} {L : List Bx} {QQ : Ex → St → Prop} (hb : b.length < 1000000000000) (hpl : ps.length < 1000000000000)
    (hx : ∀ ts, QQ (.exit 0) ⟨[some (.v (.sle 1 ps)), none, none, some (.v (.int .i64 b.length)), none, none, none, none, none, some (.v (.sle 1 ps)), some (.v (.int .i64 ps.length)), some (.v (.int .i64 ps.length)), some (.v (.bool false)), none, none, none, none, none, none, none, none, none, none, none, none, none, none, none], ts, L, G⟩) :
    ∀ (r : List V) (i n : Nat) (c : List V), ps.drop i = r → i + r.length = ps.length → catP r = some c → n + c.length = b.length →
      WL (W E C lp109_1) [0, 3, 9, 10, 11] QQ (r.length + 1) ⟨[some (.v (.sle 1 ps)), none, none, some (.v (.int .i64 n)), none, none, none, none, none, some (.v (.sle 1 ps)), some (.v (.int .i64 ps.length)), some (.v (.int .i64 i)), none, none, none, none, none, none, none, none, none, none, none, none, none, none, none, none], [], L, G⟩ := by
  intro r
  induction r with
  | nil =>
    intro i n c hr hi hc hbc
    have hi2 : i = ps.length := by simpa using hi
    subst hi2
    cases hc
    have hn : n = b.length := by simpa using hbc
    subst hn
    have hno : ¬ (ps.length : Int) < (ps.length : Int) := by omega
    refine WL_in lp109_1.eq_1 ?_
    simp (maxSteps := 1000000) (implicitDefEqProofs := false) only [hno, go_sem, ↓reduceIte]
    exact hx _
  | cons e r ih =>
    intro i n c hr hi hc hbc
    obtain ⟨a2, c2, he, hc2, rfl⟩ := catP_cons hc
    have hlt : i < ps.length := by simp only [List.length_cons] at hi; omega
    have hlt' : (i : Int) < (ps.length : Int) := by omega
    have hg : ps.getD i .nilp = e := by
      have : (ps.drop i)[0]? = some e := by rw [hr]; rfl
      rw [List.getElem?_drop, Nat.add_zero] at this
      rw [List.getD_eq_getElem?_getD, this]; rfl
    have hr2 : ps.drop (i + 1) = r := by rw [← List.drop_drop, hr]; rfl
    have ew : IntKind.i64.wrap ((i : Int) + 1) = ((i + 1 : Nat) : Int) := by rw [w64 (by omega) (by omega)]; simp
    rw [List.length_append] at hbc
    have en : IntKind.i64.wrap ((n : Int) + (a2.length : Int)) = ((n + a2.length : Nat) : Int) := by rw [w64 (by omega) (by omega)]; simp
    have hge : ¬ ((n + a2.length : Nat) : Int) < 0 := by omega
    have ihh := ih (i + 1) (n + a2.length) c2 hr2 (by simp only [List.length_cons] at hi; omega) hc2 (by omega)
    refine WL_in lp109_1.eq_1 ?_
    rcases rowV_cases he with rfl | ⟨rfl, rfl⟩
    · simp (maxSteps := 1000000) (implicitDefEqProofs := false) only [hlt', hg, ew, en, hge, Int.toNat_natCast, go_sem, ↓reduceIte]
      exact ⟨by omega, ihh⟩
    · simp only [List.length_nil] at en hge ihh
      have en' : IntKind.i64.wrap ((n : Int) + 0) = ((n + 0 : Nat) : Int) := en
      simp (maxSteps := 1000000) (implicitDefEqProofs := false) only [hlt', hg, ew, en', hge, Int.toNat_natCast, go_sem, ↓reduceIte]
      exact ⟨by omega, ihh⟩
theorem join109 {ps b : List V} {L : List Bx} {QQ : Ex → St → Prop} (hb : b.length < 1000000000000) (hpl : ps.length < 1000000000000)
    (hx : ∀ ts, QQ (.exit 2) ⟨[none, none, none, none, none, none, some (.own (.sle 1 b)), none, none, none, none, none, none, none, none, none, none, none, none, none, none, none, none, none, none, some (.v (.sle 1 ps)), some (.v (.int .i64 ps.length)), some (.v (.int .i64 ps.length))], ts, L, G⟩) :
    ∀ (r : List V) (i : Nat) (y c : List V), ps.drop i = r → i + r.length = ps.length → catP r = some c → y ++ c = b →
      WL (W E C lp109_0) [6, 25, 26, 27] QQ (r.length + 1) ⟨[none, none, none, none, none, none, some (.own (.sle 1 y)), none, none, none, none, none, none, none, none, none, none, none, none, none, none, none, none, none, none, some (.v (.sle 1 ps)), some (.v (.int .i64 ps.length)), some (.v (.int .i64 i))], [], L, G⟩ := by
  intro r
  induction r with
  | nil =>
    intro i y c hr hi hc hbc
    have hi2 : i = ps.length := by simpa using hi
    subst hi2
    cases hc
    rw [List.append_nil] at hbc
    subst hbc
    have hno : ¬ (ps.length : Int) < (ps.length : Int) := by omega
    refine WL_in lp109_0.eq_1 ?_
    simp (maxSteps := 1000000) (implicitDefEqProofs := false) only [hno, go_sem, ↓reduceIte]
    exact hx _
  | cons e r ih =>
    intro i y c hr hi hc hbc
    obtain ⟨a2, c2, he, hc2, rfl⟩ := catP_cons hc
    have hlt : i < ps.length := by simp only [List.length_cons] at hi; omega
    have hlt' : (i : Int) < (ps.length : Int) := by omega
    have hg : ps.getD i .nilp = e := by
      have : (ps.drop i)[0]? = some e := by rw [hr]; rfl
      rw [List.getElem?_drop, Nat.add_zero] at this
      rw [List.getD_eq_getElem?_getD, this]; rfl
    have hr2 : ps.drop (i + 1) = r := by rw [← List.drop_drop, hr]; rfl
    have ew : IntKind.i64.wrap ((i : Int) + 1) = ((i + 1 : Nat) : Int) := by rw [w64 (by omega) (by omega)]; simp
    have ihh := ih (i + 1) (y ++ a2) c2 hr2 (by simp only [List.length_cons] at hi; omega) hc2 (by rw [← hbc, List.append_assoc])
    have hll : y.length + (a2.length + c2.length) = b.length := by rw [← hbc]; simp only [List.length_append]
    refine WL_in lp109_0.eq_1 ?_
    rcases rowV_cases he with rfl | ⟨rfl, rfl⟩
    · simp (maxSteps := 1000000) (implicitDefEqProofs := false) only [hlt', hg, ew, Int.toNat_natCast, go_sem, ↓reduceIte]
      exact ⟨by omega, by omega, ihh⟩
    · rw [List.append_nil] at ihh
      simp (maxSteps := 1000000) (implicitDefEqProofs := false) only [hlt', hg, ew, Int.toNat_natCast, go_sem, ↓reduceIte]
      exact ⟨by omega, by omega, ihh⟩
theorem walk109 {ps b : List V} (h67 : Abs.look l 118 = some SGr) (hc : catP ps = some b) (hne : b ≠ []) (hb : b.length < 1000000000000) (hpl : ps.length < 1000000000000) (h : Q (.own (.sle 1 b)) G) : Wf E (specOf l) pf109 [.sle 1 ps] G Q := by
  have hpos : 0 < b.length := by cases b with | nil => exact absurd rfl hne | cons => simp
  simp (maxSteps := 1000000) (implicitDefEqProofs := false) only [pf109, go_sem, ↓reduceIte]
  refine ⟨ps.length + 1, ?_⟩
  simp (maxSteps := 1000000) (implicitDefEqProofs := false) only [go_sem, ↓reduceIte]
  refine sizes109 hb hpl (fun ts => ?_) ps 0 0 b rfl (by omega) hc (by omega)
  simp (maxSteps := 1000000) (implicitDefEqProofs := false) only [h67, SGr_eq, go_sem, ↓reduceIte]
  refine ⟨⟨by omega, by omega⟩, ps.length + 1, ?_⟩
  simp (maxSteps := 1000000) (implicitDefEqProofs := false) only [go_sem, ↓reduceIte]
  refine join109 hb hpl (fun ts => ?_) ps 0 [] b rfl (by omega) hc rfl
  simp (maxSteps := 1000000) (implicitDefEqProofs := false) only [go_sem, ↓reduceIte]
  exact h
end Go.Proofs.YtegamlopcdjiaaaDoor.Sha
