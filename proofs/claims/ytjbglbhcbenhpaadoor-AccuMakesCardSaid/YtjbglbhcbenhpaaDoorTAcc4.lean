/- Accumulations: the reference makes them. -/
import Derived.Test.YtjbglbhcbenhpaaDoorTAcc3
namespace Go.Proofs.YtjbglbhcbenhpaaDoor.Sha
open Go Go.Abs Go.Abs.Sha Go.Abs.Srt
set_option linter.unusedSimpArgs false
set_option linter.unusedVariables false
set_option maxRecDepth 100000
def lp27_0 : PC :=
  ((PC.reg [mm 91 14, mm 92 3, nn (.t 93) (.len (.t 92)), nn (.t 94) (.bin .lss (.t 91) (.t 93))]).seq (PC.cond (.t 94) PC.skip (PC.exit 4))).seq
    ((PC.block 5 ((PC.reg [mm 97 3, mm 98 14, nn (.t 99) (.iadrS 101 (.t 97) (.t 98)), nn (.t 100) (.fadr 0 0 (.t 99)), nn (.t 101) (.load 1 false (.t
    100)), mm 102 13, nn (.t 103) (.bin .eql (.t 101) (.t 102))]).seq (PC.cond (.t 103) (((PC.regD 0 [nn (.t 104) (.fadr 4 35 (.v 12)), nn (.t 105)
    (.load 1 false (.t 104)), nn (.t 106) (.len (.t 105)), nn (.t 107) (.bin .eql (.t 106) (.c (.v (.int .i64 0)))), nn (.t 108) (.mv false (.t 107)), gm
    109 3 108 false, gm 110 14 108 false, ⟨.t 111, .iadrS 101 (.t 109) (.t 110), some (.t 108, false)⟩, ⟨.t 112, .fadr 5 36 (.t 111), some (.t 108,
    false)⟩, ⟨.t 113, .load 1 false (.t 112), some (.t 108, false)⟩, ⟨.t 114, .fadr 2 2 (.v 12), some (.t 108, false)⟩, ⟨.t 115, .load 1 false (.t 114),
    some (.t 108, false)⟩, ⟨.t 116, .bin .gtr (.t 113) (.t 115), some (.t 108, false)⟩, nn (.t 117) (.pick (.t 108) (.c (.v (.bool true))) (.t 116))]
    []).seq (PC.cond (.t 117) ((PC.reg [mm 118 3, mm 119 14, nn (.t 120) (.iadrS 101 (.t 118) (.t 119)), nn (.t 121) (.fadr 5 36 (.t 120)), nn (.t 122)
    (.load 1 false (.t 121)), nn (.t 123) (.fadr 2 2 (.v 12)), nn .no (.store 1 (.t 123) (.t 122))]).seq (PC.reg [mm 124 3, mm 125 14, nn (.t 126)
    (.iadrS 101 (.t 124) (.t 125)), nn (.t 127) (.fadr 6 37 (.t 126)), nn (.t 128) (.load 32 true (.t 127)), nn (.t 129) (.fadr 3 3 (.v 12)), nn .no
    (.store 32 (.t 129) (.t 128))])) PC.skip)).seq ((PC.reg [nn (.t 130) (.fadr 4 35 (.v 12)), nn (.t 131) (.load 1 false (.t 130)), mm 132 13, nn (.t
    133) (.buildS (some .i64) 1 (.int .i64 0) 1 [(0, .t 132)]), nn (.t 134) (.appR 1 8 (.int .i64 0) (.t 131) (.t 133)), nn (.t 135) (.fadr 4 35 (.v
    12)), nn .no (.store 1 (.t 135) (.t 134))]).seq (PC.exit 4))) PC.skip))).seq (PC.reg [mm 95 14, nn (.t 96) (.bin .add (.t 95) (.c (.v (.int .i64
    1)))), ma 14 96]))
def lp27_1 : PC :=
  ((PC.reg [mm 79 13, mm 80 1, nn (.t 81) (.bin .leq (.t 79) (.t 80)), nn (.t 82) (.mv false (.t 81)), ⟨.t 83, .fadr 4 35 (.v 12), some (.t 82, true)⟩,
    ⟨.t 84, .load 1 false (.t 83), some (.t 82, true)⟩, ⟨.t 85, .len (.t 84), some (.t 82, true)⟩, gm 86 10 82 true, ⟨.t 87, .bin .lss (.t 85) (.t 86),
    some (.t 82, true)⟩, nn (.t 88) (.pick (.t 82) (.t 87) (.c (.v (.bool false))))]).seq (PC.cond (.t 88) PC.skip (PC.exit 2))).seq ((PC.block 3
    ((PC.reg [nn (.v 14) (.mv true (.c (.v (.int .i64 0))))]).seq (PC.block 4 (PC.loop [1, 3, 8, 10, 12, 13, 14] lp27_0)))).seq (PC.reg [mm 89 13, nn (.t
    90) (.bin .add (.t 89) (.c (.v (.int .i64 1)))), ma 13 90]))
def lp27_2 : PC :=
  ((PC.reg [mm 37 11, mm 38 3, nn (.t 39) (.len (.t 38)), nn (.t 40) (.bin .lss (.t 37) (.t 39))]).seq (PC.cond (.t 40) PC.skip (PC.exit 0))).seq
    ((PC.block 1 ((PC.reg [mm 43 3, mm 44 11, nn (.t 45) (.iadrS 101 (.t 43) (.t 44)), nn (.t 46) (.load 101 true (.t 45)), nn (.t 47) (.call 65 [.t
    46]), nn (.t 48) (.un .not (.t 47)), nn (.t 49) (.mv false (.t 48)), gm 50 3 49 false, gm 51 11 49 false, ⟨.t 52, .iadrS 101 (.t 50) (.t 51), some
    (.t 49, false)⟩, ⟨.t 53, .fadr 1 1 (.t 52), some (.t 49, false)⟩, ⟨.t 54, .load 1 false (.t 53), some (.t 49, false)⟩, ⟨.t 55, .bin .neq (.t 54) (.c
    (.v (.int .i64 1))), some (.t 49, false)⟩, nn (.t 56) (.pick (.t 49) (.c (.v (.bool true))) (.t 55)), nn (.t 57) (.mv false (.t 56)), gm 58 3 57
    false, gm 59 11 57 false, ⟨.t 60, .iadrS 101 (.t 58) (.t 59), some (.t 57, false)⟩, ⟨.t 61, .fadr 2 2 (.t 60), some (.t 57, false)⟩, ⟨.t 62, .load 1
    false (.t 61), some (.t 57, false)⟩, gm 63 2 57 false, ⟨.t 64, .bin .neq (.t 62) (.t 63), some (.t 57, false)⟩, nn (.t 65) (.pick (.t 57) (.c (.v
    (.bool true))) (.t 64)), nn (.t 66) (.mv false (.t 65)), gm 67 3 66 false, gm 68 11 66 false, ⟨.t 69, .iadrS 101 (.t 67) (.t 68), some (.t 66,
    false)⟩, ⟨.t 70, .fadr 0 0 (.t 69), some (.t 66, false)⟩, ⟨.t 71, .load 1 false (.t 70), some (.t 66, false)⟩, gm 72 1 66 false, ⟨.t 73, .bin .gtr
    (.t 71) (.t 72), some (.t 66, false)⟩, nn (.t 74) (.pick (.t 66) (.c (.v (.bool true))) (.t 73))]).seq (PC.cond (.t 74) ((PC.reg [nn (.t 75) (.build
    (.agg [.int .i64 0, .int .i64 0, .int .i64 0, .arr .u8 32 [0, 0, 0, 0, 0, 0, 0, 0, 0, 0, 0, 0, 0, 0, 0, 0, 0, 0, 0, 0, 0, 0, 0, 0, 0, 0, 0, 0, 0, 0,
    0, 0], .nils, .arr .u8 32 [0, 0, 0, 0, 0, 0, 0, 0, 0, 0, 0, 0, 0, 0, 0, 0, 0, 0, 0, 0, 0, 0, 0, 0, 0, 0, 0, 0, 0, 0, 0, 0]]) []), nn .no (.store 68
    (.v 8) (.t 75)), nn (.v 9) (.mv true (.c (.v (.int .i64 7))))]).seq PC.ret) PC.skip))).seq (PC.reg [mm 41 11, nn (.t 42) (.bin .add (.t 41) (.c (.v
    (.int .i64 1)))), ma 11 42]))
def pf27 : PF :=
  PF.mk 4 15 146 ((PC.reg [nn (.v 8) (.alloc (.agg [.int .i64 0, .int .i64 0, .int .i64 0, .arr .u8 32 [0, 0, 0, 0, 0, 0, 0, 0, 0, 0, 0, 0, 0, 0, 0, 0,
    0, 0, 0, 0, 0, 0, 0, 0, 0, 0, 0, 0, 0, 0, 0, 0], .nils, .arr .u8 32 [0, 0, 0, 0, 0, 0, 0, 0, 0, 0, 0, 0, 0, 0, 0, 0, 0, 0, 0, 0, 0, 0, 0, 0, 0, 0, 0,
    0, 0, 0, 0, 0]])), nn (.v 9) (.mv true (.c (.v (.int .i64 0))))]).seq ((PC.reg [mm 15 1, nn (.t 16) (.call 64 [.t 15]), ma 10 16]).seq (((PC.reg [mm
    17 10, nn (.t 18) (.bin .eql (.t 17) (.c (.v (.int .i64 0)))), nn (.t 19) (.mv false (.t 18)), gm 20 0 19 false, ⟨.t 21, .bin .lss (.t 20) (.c (.v
    (.int .i64 1))), some (.t 19, false)⟩, nn (.t 22) (.pick (.t 19) (.c (.v (.bool true))) (.t 21)), nn (.t 23) (.mv false (.t 22)), gm 24 0 23 false,
    gm 25 1 23 false, ⟨.t 26, .bin .gtr (.t 24) (.t 25), some (.t 23, false)⟩, nn (.t 27) (.pick (.t 23) (.c (.v (.bool true))) (.t 26)), nn (.t 28) (.mv
    false (.t 27)), gm 29 2 28 false, ⟨.t 30, .bin .lss (.t 29) (.c (.v (.int .i64 1))), some (.t 28, false)⟩, nn (.t 31) (.pick (.t 28) (.c (.v (.bool
    true))) (.t 30)), nn (.t 32) (.mv false (.t 31)), gm 33 2 32 false, ⟨.t 34, .bin .gtr (.t 33) (.c (.v (.int .i64 1099511627776))), some (.t 32,
    false)⟩, nn (.t 35) (.pick (.t 32) (.c (.v (.bool true))) (.t 34))]).seq (PC.cond (.t 35) ((PC.reg [nn (.t 36) (.build (.agg [.int .i64 0, .int .i64
    0, .int .i64 0, .arr .u8 32 [0, 0, 0, 0, 0, 0, 0, 0, 0, 0, 0, 0, 0, 0, 0, 0, 0, 0, 0, 0, 0, 0, 0, 0, 0, 0, 0, 0, 0, 0, 0, 0], .nils, .arr .u8 32 [0,
    0, 0, 0, 0, 0, 0, 0, 0, 0, 0, 0, 0, 0, 0, 0, 0, 0, 0, 0, 0, 0, 0, 0, 0, 0, 0, 0, 0, 0, 0, 0]]) []), nn .no (.store 68 (.v 8) (.t 36)), nn (.v 9) (.mv
    true (.c (.v (.int .i64 1))))]).seq PC.ret) PC.skip)).seq (((PC.reg [nn (.v 11) (.mv true (.c (.v (.int .i64 0))))]).seq (PC.block 0 (PC.loop [0, 1,
    2, 3, 8, 10, 11] lp27_2))).seq ((PC.reg [mm 76 0, mm 77 2, nn (.t 78) (.build (.agg [.int .i64 0, .int .i64 0, .int .i64 0, .arr .u8 32 [0, 0, 0, 0,
    0, 0, 0, 0, 0, 0, 0, 0, 0, 0, 0, 0, 0, 0, 0, 0, 0, 0, 0, 0, 0, 0, 0, 0, 0, 0, 0, 0], .nils, .arr .u8 32 [0, 0, 0, 0, 0, 0, 0, 0, 0, 0, 0, 0, 0, 0, 0,
    0, 0, 0, 0, 0, 0, 0, 0, 0, 0, 0, 0, 0, 0, 0, 0, 0]]) [(0, .t 76), (1, .t 77)]), nn (.v 12) (.alloc (.agg [.int .i64 0, .int .i64 0, .int .i64 0, .arr
    .u8 32 [0, 0, 0, 0, 0, 0, 0, 0, 0, 0, 0, 0, 0, 0, 0, 0, 0, 0, 0, 0, 0, 0, 0, 0, 0, 0, 0, 0, 0, 0, 0, 0], .nils, .arr .u8 32 [0, 0, 0, 0, 0, 0, 0, 0,
    0, 0, 0, 0, 0, 0, 0, 0, 0, 0, 0, 0, 0, 0, 0, 0, 0, 0, 0, 0, 0, 0, 0, 0]])), nn .no (.store 68 (.v 12) (.t 78))]).seq (((PC.reg [nn (.v 13) (.mv true
    (.c (.v (.int .i64 1))))]).seq (PC.block 2 (PC.loop [1, 3, 8, 10, 12, 13] lp27_1))).seq (((PC.reg [nn (.t 136) (.fadr 4 35 (.v 12)), nn (.t 137)
    (.load 1 false (.t 136)), nn (.t 138) (.len (.t 137)), mm 139 10, nn (.t 140) (.bin .lss (.t 138) (.t 139))]).seq (PC.cond (.t 140) ((PC.reg [nn (.t
    141) (.build (.agg [.int .i64 0, .int .i64 0, .int .i64 0, .arr .u8 32 [0, 0, 0, 0, 0, 0, 0, 0, 0, 0, 0, 0, 0, 0, 0, 0, 0, 0, 0, 0, 0, 0, 0, 0, 0, 0,
    0, 0, 0, 0, 0, 0], .nils, .arr .u8 32 [0, 0, 0, 0, 0, 0, 0, 0, 0, 0, 0, 0, 0, 0, 0, 0, 0, 0, 0, 0, 0, 0, 0, 0, 0, 0, 0, 0, 0, 0, 0, 0]]) []), nn .no
    (.store 68 (.v 8) (.t 141)), nn (.v 9) (.mv true (.c (.v (.int .i64 3))))]).seq PC.ret) PC.skip)).seq ((PC.reg [nn (.t 142) (.load 68 true (.v 12)),
    nn (.t 143) (.call 66 [.t 142]), nn (.t 144) (.fadr 5 36 (.v 12)), nn .no (.store 32 (.t 144) (.t 143))]).seq ((PC.reg [nn (.t 145) (.load 68 true
    (.v 12)), nn .no (.store 68 (.v 8) (.t 145)), nn (.v 9) (.mv true (.c (.v (.int .i64 0))))]).seq PC.ret))))))))) [(.v 8, some (68, true)), (.v 9,
    none)]
attribute [local irreducible] W Wops WopsD WL Wop WopD
variable {E : Env} {C : Abs.Spec} {l : List (Nat × Spec1)} {G : List (Nat × V)} {Q : R → List (Nat × V) → Prop}
set_option maxHeartbeats 1000000
theorem loop27_2 {kt : List Int} (hR : Abs.look l 65 = some (SRi kt)) {QQ : Ex → St → Prop} {by_ n view : Int} {q : Nat} {as : List AttS} (hw : ∀ a ∈ as, a.wf) (hl : as.length < 1000000)
    (hx : ∀ ts, (as.any (badA kt n view)) = false → QQ (.exit 0) ⟨[some (.v (.int .i64 by_)), some (.v (.int .i64 n)), some (.v (.int .i64 view)), some (.v (.sle 101 (as.map AttS.v))), none, none, none, none, some (.lp 0 []), none, some (.v (.int .i64 (q : Nat))), some (.v (.int .i64 (as.length : Nat))), none, none, none], ts, [⟨false, .agg [.int .i64 0, .int .i64 0, .int .i64 0, .arr .u8 32 [0, 0, 0, 0, 0, 0, 0, 0, 0, 0, 0, 0, 0, 0, 0, 0, 0, 0, 0, 0, 0, 0, 0, 0, 0, 0, 0, 0, 0, 0, 0, 0], .nils, .arr .u8 32 [0, 0, 0, 0, 0, 0, 0, 0, 0, 0, 0, 0, 0, 0, 0, 0, 0, 0, 0, 0, 0, 0, 0, 0, 0, 0, 0, 0, 0, 0, 0, 0]]⟩], G⟩)
    (hr : ∀ (j : Nat) ts, (as.any (badA kt n view)) = true → QQ .ret ⟨[some (.v (.int .i64 by_)), some (.v (.int .i64 n)), some (.v (.int .i64 view)), some (.v (.sle 101 (as.map AttS.v))), none, none, none, none, some (.lp 0 []), some (.v (.int .i64 7)), some (.v (.int .i64 (q : Nat))), some (.v (.int .i64 (j : Nat))), none, none, none], ts, [⟨false, .agg [.int .i64 0, .int .i64 0, .int .i64 0, .arr .u8 32 [0, 0, 0, 0, 0, 0, 0, 0, 0, 0, 0, 0, 0, 0, 0, 0, 0, 0, 0, 0, 0, 0, 0, 0, 0, 0, 0, 0, 0, 0, 0, 0], .nils, .arr .u8 32 [0, 0, 0, 0, 0, 0, 0, 0, 0, 0, 0, 0, 0, 0, 0, 0, 0, 0, 0, 0, 0, 0, 0, 0, 0, 0, 0, 0, 0, 0, 0, 0]]⟩], G⟩) :
    ∀ (k j : Nat), j + k = as.length → (∀ x ∈ as.take j, (badA kt n view x) = false) → WL (W E (specOf l) lp27_2) [0, 1, 2, 3, 8, 10, 11] QQ (k + 1) ⟨[some (.v (.int .i64 by_)), some (.v (.int .i64 n)), some (.v (.int .i64 view)), some (.v (.sle 101 (as.map AttS.v))), none, none, none, none, some (.lp 0 []), none, some (.v (.int .i64 (q : Nat))), some (.v (.int .i64 (j : Nat))), none, none, none], [], [⟨false, .agg [.int .i64 0, .int .i64 0, .int .i64 0, .arr .u8 32 [0, 0, 0, 0, 0, 0, 0, 0, 0, 0, 0, 0, 0, 0, 0, 0, 0, 0, 0, 0, 0, 0, 0, 0, 0, 0, 0, 0, 0, 0, 0, 0], .nils, .arr .u8 32 [0, 0, 0, 0, 0, 0, 0, 0, 0, 0, 0, 0, 0, 0, 0, 0, 0, 0, 0, 0, 0, 0, 0, 0, 0, 0, 0, 0, 0, 0, 0, 0]]⟩], G⟩ := by
  intro k
  induction k with
  | zero =>
    intro j hj hp
    obtain rfl : j = as.length := by omega
    refine WL_in lp27_2.eq_1 ?_
    simp (maxSteps := 1000000) (implicitDefEqProofs := false) only [Int.lt_irrefl, List.length_map, go_sem, ↓reduceIte]
    exact hx _ (any_no hp)
  | succ k ih =>
    intro j hj hp
    have c1 : (j : Int) < (as.length : Int) := by omega
    have c2 : (0 : Int) ≤ (j : Int) := by omega
    obtain ⟨b, hb⟩ : ∃ b, as[j]? = some b := ⟨as[j]'(by omega), List.getElem?_eq_getElem (by omega)⟩
    have g : (as.map AttS.v).getD j V.nilp = b.v := by rw [List.getD_eq_getElem?_getD, get_v hb]; rfl
    have w1 : IntKind.i64.wrap ((j : Int) + 1) = ((j + 1 : Nat) : Int) := wc (by omega) (by omega)
    have hbw := hw b (List.mem_of_getElem? hb)
    have yes := fun h => any_of (p := badA kt n view) hb h
    have no := fun h => take_one (p := badA kt n view) hb hp h
    obtain ⟨b1, b2, b3, b4, b5, b6, b7, b8⟩ := b
    unfold badA at yes no
    dsimp only at yes no
    refine WL_in lp27_2.eq_1 ?_
    simp (maxSteps := 1000000) (implicitDefEqProofs := false) only [c1, c2, hR, SRi_eq, g, AttS.v, Int.toNat_natCast, List.length_map, w1, go_sem, ↓reduceIte]
    refine ⟨hbw, ?_⟩
    by_cases r : (⟨b1, b2, b3, b4, b5, b6, b7, b8⟩ : AttS).right kt = true
    case neg =>
      simp (maxSteps := 1000000) (implicitDefEqProofs := false) only [c1, c2, r, g, AttS.v, Int.toNat_natCast, List.length_map, w1, go_sem, ↓reduceIte]
      exact hr j _ (yes (by simp [r]))
    by_cases r2 : b2 = 1
    case neg =>
      simp (maxSteps := 1000000) (implicitDefEqProofs := false) only [c1, c2, r, r2, g, AttS.v, Int.toNat_natCast, List.length_map, w1, go_sem, ↓reduceIte]
      exact hr j _ (yes (by simp [r, r2]))
    subst r2
    by_cases r3 : b3 = view
    case neg =>
      simp (maxSteps := 1000000) (implicitDefEqProofs := false) only [c1, c2, r, r3, g, AttS.v, Int.toNat_natCast, List.length_map, w1, go_sem, ↓reduceIte]
      exact hr j _ (yes (by simp [r, r3]))
    subst r3
    by_cases r4 : n < b1
    · have r4p : ¬ b1 ≤ n := by omega
      simp (maxSteps := 1000000) (implicitDefEqProofs := false) only [c1, c2, r, r4, r4p, g, AttS.v, Int.toNat_natCast, List.length_map, w1, go_sem, ↓reduceIte]
      exact hr j _ (yes (by simp [r, r4]))
    · have r4n : b1 ≤ n := by omega
      simp (maxSteps := 1000000) (implicitDefEqProofs := false) only [c1, c2, r, r4, r4n, g, AttS.v, Int.toNat_natCast, List.length_map, w1, go_sem, ↓reduceIte]
      exact ih (j + 1) (by omega) (no (by simp [r, r4]))
def refB (l : List AttS) : Int × List Int := if l = [] then (0, zero32) else bestA (-1, zero32) l
theorem refB_snoc {l : List AttS} {a : AttS} (ha : 0 ≤ a.pv) : refB (l ++ [a]) = if l = [] ∨ (refB l).1 < a.pv then (a.pv, a.pa) else refB l := by
  unfold refB
  rw [if_neg (by simp), bestA_snoc]
  by_cases e : l = []
  · subst e
    rw [if_pos (by show (-1 : Int) < _; omega), if_pos (.inl rfl)]
  · simp only [if_neg e]
    by_cases h : (bestA (-1, zero32) l).1 < a.pv
    · rw [if_pos h, if_pos (.inr h)]
    · rw [if_neg h, if_neg (by rintro (h2 | h2) <;> first | exact e h2 | exact h h2)]
theorem loop27_0 {QQ : Ex → St → Prop} {by_ n view p : Int} {h : List Int} {q kk : Nat} {as fs : List AttS} {x : V} {r0 : Bx} {G0 : List (Nat × V)} (hl : as.length < 1000000) (hfl : fs.length < 1000000) (hpv : ∀ a ∈ as, 0 ≤ a.pv) (hB : refB fs = (p, h)) (hrow : Row G0 G 1 (.int .i64 0) x (fs.map fun a => V.int .i64 a.who))
    (hx : ∀ ts (j : Nat) x' p2 h2 G2, Row G0 G2 1 (.int .i64 0) x' ((fs ++ (as.find? fun w => decide (w.who = (kk : Int))).toList).map fun a => V.int .i64 a.who) → refB (fs ++ (as.find? fun w => decide (w.who = (kk : Int))).toList) = (p2, h2) → QQ (.exit 4) ⟨[none, some (.v (.int .i64 n)), none, some (.v (.sle 101 (as.map AttS.v))), none, none, none, none, some (.lp 0 []), none, some (.v (.int .i64 (q : Nat))), none, some (.lp 1 []), some (.v (.int .i64 (kk : Nat))), some (.v (.int .i64 (j : Nat)))], ts, [r0, ⟨false, .agg [.int .i64 by_, .int .i64 view, .int .i64 p2, .arr .u8 32 h2, x', .arr .u8 32 [0, 0, 0, 0, 0, 0, 0, 0, 0, 0, 0, 0, 0, 0, 0, 0, 0, 0, 0, 0, 0, 0, 0, 0, 0, 0, 0, 0, 0, 0, 0, 0]]⟩], G2⟩) :
    ∀ (k j : Nat), j + k = as.length → (∀ w ∈ as.take j, decide (w.who = (kk : Int)) = false) → WL (W E C lp27_0) [1, 3, 8, 10, 12, 13, 14] QQ (k + 1) ⟨[none, some (.v (.int .i64 n)), none, some (.v (.sle 101 (as.map AttS.v))), none, none, none, none, some (.lp 0 []), none, some (.v (.int .i64 (q : Nat))), none, some (.lp 1 []), some (.v (.int .i64 (kk : Nat))), some (.v (.int .i64 (j : Nat)))], [], [r0, ⟨false, .agg [.int .i64 by_, .int .i64 view, .int .i64 p, .arr .u8 32 h, x, .arr .u8 32 [0, 0, 0, 0, 0, 0, 0, 0, 0, 0, 0, 0, 0, 0, 0, 0, 0, 0, 0, 0, 0, 0, 0, 0, 0, 0, 0, 0, 0, 0, 0, 0]]⟩], G⟩ := by
  intro k
  induction k with
  | zero =>
    intro j hj hp
    obtain rfl : j = as.length := by omega
    refine WL_in lp27_0.eq_1 ?_
    simp (maxSteps := 1000000) (implicitDefEqProofs := false) only [Int.lt_irrefl, List.length_map, go_sem, ↓reduceIte]
    refine hx _ _ _ _ _ _ ?_ ?_
    · rw [find_no hp, Option.toList_none, List.append_nil]; exact hrow
    · rw [find_no hp, Option.toList_none, List.append_nil]; exact hB
  | succ k ih =>
    intro j hj hp
    have c1 : (j : Int) < (as.length : Int) := by omega
    have c2 : (0 : Int) ≤ (j : Int) := by omega
    obtain ⟨b, hb⟩ : ∃ b, as[j]? = some b := ⟨as[j]'(by omega), List.getElem?_eq_getElem (by omega)⟩
    have g : (as.map AttS.v).getD j V.nilp = b.v := by rw [List.getD_eq_getElem?_getD, get_v hb]; rfl
    have w1 : IntKind.i64.wrap ((j : Int) + 1) = ((j + 1 : Nat) : Int) := wc (by omega) (by omega)
    have yes := fun h => find_at (p := fun w => decide (w.who = (kk : Int))) hb hp h
    have no := fun h => take_one (p := fun w => decide (w.who = (kk : Int))) hb hp h
    have hb0 := hpv b (List.mem_of_getElem? hb)
    have sn := refB_snoc (l := fs) hb0
    rw [hB] at sn
    have mp : (fs ++ [b]).map (fun a => V.int .i64 a.who) = fs.map (fun a => V.int .i64 a.who) ++ [V.int .i64 b.who] := by simp
    obtain ⟨b1, b2, b3, b4, b5, b6, b7, b8⟩ := b
    dsimp only at sn mp
    obtain ⟨x1, x2⟩ := hrow.one
    have x3 := hrow.lenI
    rw [List.length_map] at x3
    unfold V.isAgg at x2
    unfold V.lenI at x3
    have els : ∀ u ∈ fs.map (fun a => V.int .i64 a.who), V.size u = 1 ∧ u.same (.int .i64 0) = true := fun u hu => by
      obtain ⟨w, _, rfl⟩ := List.mem_map.1 hu; exact ⟨rfl, rfl⟩
    have hlen : (fs.map (fun a => V.int .i64 a.who)).length < 1000000 := by rw [List.length_map]; exact hfl
    refine WL_in lp27_0.eq_1 ?_
    by_cases r : b1 = (kk : Int)
    · rw [yes (decide_eq_true r), Option.toList_some, mp] at hx
      by_cases e0 : fs.length = 0
      · have e0' : ((fs.length : Nat) : Int) = 0 := by omega
        rw [if_pos (.inl (List.eq_nil_of_length_eq_zero e0))] at sn
        simp (maxSteps := 1000000) (implicitDefEqProofs := false) only [c1, c2, r, g, AttS.v, Int.toNat_natCast, List.length_map, w1, x1, x2, x3, e0', go_sem, ↓reduceIte]
        subst r
        refine Row.app (G0 := G0) (sz := 1) (z := .int .i64 0) (y := .int .i64 (kk : Int)) (els := fs.map fun a => V.int .i64 a.who) hrow (by omega) ⟨rfl, rfl⟩ rfl els (fun x' G2 hr2 => ?_)
        obtain ⟨y1, y2⟩ := hr2.one
        unfold V.isAgg at y2
        have yl := hrow.like hr2
        simp (maxSteps := 1000000) (implicitDefEqProofs := false) only [x1, x2, y1, y2, yl, go_sem, ↓reduceIte]
        exact hx _ j _ _ _ _ hr2 sn
      · have e0' : ¬ ((fs.length : Nat) : Int) = 0 := by omega
        have e0n : fs ≠ [] := fun e => e0 (by rw [e]; rfl)
        by_cases r2 : p < b6
        · rw [if_pos (.inr r2)] at sn
          simp (maxSteps := 1000000) (implicitDefEqProofs := false) only [c1, c2, r, r2, g, AttS.v, Int.toNat_natCast, List.length_map, w1, x1, x2, x3, e0', go_sem, ↓reduceIte]
          subst r
          refine Row.app (G0 := G0) (sz := 1) (z := .int .i64 0) (y := .int .i64 (kk : Int)) (els := fs.map fun a => V.int .i64 a.who) hrow (by omega) ⟨rfl, rfl⟩ rfl els (fun x' G2 hr2 => ?_)
          obtain ⟨y1, y2⟩ := hr2.one
          unfold V.isAgg at y2
          have yl := hrow.like hr2
          simp (maxSteps := 1000000) (implicitDefEqProofs := false) only [x1, x2, y1, y2, yl, go_sem, ↓reduceIte]
          exact hx _ j _ _ _ _ hr2 sn
        · have r2n : b6 ≤ p := by omega
          rw [if_neg (by rintro (h2 | h2) <;> first | exact e0n h2 | exact r2 h2)] at sn
          simp (maxSteps := 1000000) (implicitDefEqProofs := false) only [c1, c2, r, r2, r2n, g, AttS.v, Int.toNat_natCast, List.length_map, w1, x1, x2, x3, e0', go_sem, ↓reduceIte]
          subst r
          refine Row.app (G0 := G0) (sz := 1) (z := .int .i64 0) (y := .int .i64 (kk : Int)) (els := fs.map fun a => V.int .i64 a.who) hrow (by omega) ⟨rfl, rfl⟩ rfl els (fun x' G2 hr2 => ?_)
          obtain ⟨y1, y2⟩ := hr2.one
          unfold V.isAgg at y2
          have yl := hrow.like hr2
          simp (maxSteps := 1000000) (implicitDefEqProofs := false) only [x1, x2, y1, y2, yl, go_sem, ↓reduceIte]
          exact hx _ j _ _ _ _ hr2 sn
    · simp (maxSteps := 1000000) (implicitDefEqProofs := false) only [c1, c2, r, g, AttS.v, Int.toNat_natCast, List.length_map, w1, go_sem, ↓reduceIte]
      exact ih (j + 1) (by omega) (no (decide_eq_false r))
theorem loop27_1 {QQ : Ex → St → Prop} {N q : Nat} {by_ n view : Int} {as : List AttS} {r0 : Bx} {G0 : List (Nat × V)} (hn : n = (N : Int)) (hN : N < 1000) (hl : as.length < 1000000) (hpv : ∀ a ∈ as, 0 ≤ a.pv)
    (hx : ∀ ts (k : Nat) x p h G2, Row G0 G2 1 (.int .i64 0) x (((firstsA n as).take q).map fun a => V.int .i64 a.who) → refB ((firstsA n as).take q) = (p, h) → QQ (.exit 2) ⟨[none, some (.v (.int .i64 n)), none, some (.v (.sle 101 (as.map AttS.v))), none, none, none, none, some (.lp 0 []), none, some (.v (.int .i64 (q : Nat))), none, some (.lp 1 []), some (.v (.int .i64 (k : Nat))), none], ts, [r0, ⟨false, .agg [.int .i64 by_, .int .i64 view, .int .i64 p, .arr .u8 32 h, x, .arr .u8 32 [0, 0, 0, 0, 0, 0, 0, 0, 0, 0, 0, 0, 0, 0, 0, 0, 0, 0, 0, 0, 0, 0, 0, 0, 0, 0, 0, 0, 0, 0, 0, 0]]⟩], G2⟩) :
    ∀ (d k : Nat) x p h G, k + d = N + 1 → 1 ≤ k → Row G0 G 1 (.int .i64 0) x ((firstsA ((k - 1 : Nat) : Int) as).map fun a => V.int .i64 a.who) → refB (firstsA ((k - 1 : Nat) : Int) as) = (p, h) → (firstsA ((k - 1 : Nat) : Int) as).length ≤ q → WL (W E C lp27_1) [1, 3, 8, 10, 12, 13] QQ (d + 1) ⟨[none, some (.v (.int .i64 n)), none, some (.v (.sle 101 (as.map AttS.v))), none, none, none, none, some (.lp 0 []), none, some (.v (.int .i64 (q : Nat))), none, some (.lp 1 []), some (.v (.int .i64 (k : Nat))), none], [], [r0, ⟨false, .agg [.int .i64 by_, .int .i64 view, .int .i64 p, .arr .u8 32 h, x, .arr .u8 32 [0, 0, 0, 0, 0, 0, 0, 0, 0, 0, 0, 0, 0, 0, 0, 0, 0, 0, 0, 0, 0, 0, 0, 0, 0, 0, 0, 0, 0, 0, 0, 0]]⟩], G⟩ := by
  intro d
  induction d with
  | zero =>
    intro k x p h G hk h1 hrow hB hle
    obtain rfl : k = N + 1 := by omega
    have c1 : ¬ ((N + 1 : Nat) : Int) ≤ n := by omega
    refine WL_in lp27_1.eq_1 ?_
    simp (maxSteps := 1000000) (implicitDefEqProofs := false) only [c1, go_sem, ↓reduceIte]
    rw [Nat.add_sub_cancel] at hle hrow hB
    refine hx _ _ _ _ _ _ ?_ ?_
    · rw [hn, List.take_of_length_le hle]; exact hrow
    · rw [hn, List.take_of_length_le hle]; exact hB
  | succ d ih =>
    intro k x p h G hk h1 hrow hB hle
    have c1 : (k : Int) ≤ n := by omega
    have w1 : IntKind.i64.wrap ((k : Int) + 1) = ((k + 1 : Nat) : Int) := wc (by omega) (by omega)
    obtain ⟨x1, x2⟩ := hrow.one
    have x3 := hrow.lenI
    rw [List.length_map] at x3
    unfold V.isAgg at x2
    unfold V.lenI at x3
    refine WL_in lp27_1.eq_1 ?_
    by_cases hq : (firstsA ((k - 1 : Nat) : Int) as).length < q
    · have c2 : ((firstsA ((k - 1 : Nat) : Int) as).length : Int) < (q : Int) := by omega
      simp (maxSteps := 1000000) (implicitDefEqProofs := false) only [c1, c2, x1, x2, x3, go_sem, ↓reduceIte]
      refine ⟨as.length + 1, ?_⟩
      refine loop27_0 (G0 := G0) (fs := firstsA ((k - 1 : Nat) : Int) as) hl (by have := firstsA_len ((k - 1 : Nat) : Int) as; rw [Int.toNat_natCast] at this; omega) hpv hB hrow (fun ts j x' p2 h2 G2 hr2 hB2 => ?_) as.length 0 (by omega) (fun w hw => by simp at hw)
      simp (maxSteps := 1000000) (implicitDefEqProofs := false) only [w1, go_sem, ↓reduceIte]
      obtain ⟨k, rfl⟩ : ∃ k', k = k' + 1 := ⟨k - 1, by omega⟩
      rw [Nat.add_sub_cancel] at hr2 hq hB2
      rw [← firstsA_succ] at hr2 hB2
      refine ih (k + 1 + 1) x' p2 h2 G2 (by omega) (by omega) hr2 hB2 ?_
      rw [Nat.add_sub_cancel, firstsA_succ, List.length_append]
      have : ∀ o : Option AttS, o.toList.length ≤ 1 := fun o => by cases o <;> simp
      have := this (as.find? fun a => decide (a.who = ((k + 1 : Nat) : Int)))
      omega
    · have c2 : ¬ ((firstsA ((k - 1 : Nat) : Int) as).length : Int) < (q : Int) := by omega
      simp (maxSteps := 1000000) (implicitDefEqProofs := false) only [c1, c2, x1, x2, x3, go_sem, ↓reduceIte]
      obtain ⟨m, hm⟩ := firstsA_pre (k := k - 1) (l := as) (N - (k - 1))
      rw [show k - 1 + (N - (k - 1)) = N by omega, ← hn] at hm
      refine hx _ _ _ _ _ _ ?_ ?_
      · rw [hm, List.take_append_of_le_length (by omega), List.take_of_length_le hle]; exact hrow
      · rw [hm, List.take_append_of_le_length (by omega), List.take_of_length_le hle]; exact hB
theorem walk27 (hQ : Abs.look l 64 = some ZQu) (hR : Abs.look l 65 = some (SRi K256)) (hT : Abs.look l 66 = some (ZTa K256)) {by_ n view : Int} {as : List AttS} (hb : I64 by_) (hI : I64 n) (hv : I64 view) (hw : ∀ a ∈ as, a.wf) (hl : as.length ≤ 39) (h : Q (.tup [(mkAccu K256 by_ n view as).1.v, .int .i64 (mkAccu K256 by_ n view as).2]) G) :
    Wf E (specOf l) pf27 [.int .i64 by_, .int .i64 n, .int .i64 view, .sle 101 (as.map AttS.v)] G (fun r G' => ∃ r2 G2, Low G r G' r2 G2 ∧ Q r2 G2) := by
  have bad : ∀ G' (e : Int), Ext G G' → mkAccu K256 by_ n view as = (.zero, e) → ∃ r2 G2, Low G (.tup [.agg [.int .i64 0, .int .i64 0, .int .i64 0, .arr .u8 32 [0, 0, 0, 0, 0, 0, 0, 0, 0, 0, 0, 0, 0, 0, 0, 0, 0, 0, 0, 0, 0, 0, 0, 0, 0, 0, 0, 0, 0, 0, 0, 0], .nils, .arr .u8 32 [0, 0, 0, 0, 0, 0, 0, 0, 0, 0, 0, 0, 0, 0, 0, 0, 0, 0, 0, 0, 0, 0, 0, 0, 0, 0, 0, 0, 0, 0, 0, 0]], .int .i64 e]) G' r2 G2 ∧ Q r2 G2 := fun G' e he hm => by
    rw [hm] at h
    exact ⟨_, _, low_accu (els := []) (z := .int .i64 0) (Row.nil he), h⟩
  have hqn := quo_nn n
  simp (maxSteps := 1000000) (implicitDefEqProofs := false) only [pf27, hQ, ZQu_eq, go_sem, ↓reduceIte]
  refine ⟨hI, ?_⟩
  by_cases q0 : quo n = 0
  · simp (maxSteps := 1000000) (implicitDefEqProofs := false) only [q0, go_sem, ↓reduceIte]
    refine bad _ _ (Ext.refl G) ?_
    unfold mkAccu; rw [if_pos (.inl q0)]
  simp (maxSteps := 1000000) (implicitDefEqProofs := false) only [q0, go_sem, ↓reduceIte]
  refine ⟨fun c => bad _ _ (Ext.refl G) (by unfold mkAccu; rw [if_pos (by omega)]), fun p1 => ⟨fun c => bad _ _ (Ext.refl G) (by unfold mkAccu; rw [if_pos (by omega)]), fun p2 => ⟨fun c => bad _ _ (Ext.refl G) (by unfold mkAccu; rw [if_pos (by omega)]), fun p3 => ⟨fun c => bad _ _ (Ext.refl G) (by unfold mkAccu; rw [if_pos (by omega)]), fun p4 => ?_⟩⟩⟩⟩
  have n0 : ¬ (quo n = 0 ∨ by_ < 1 ∨ n < by_ ∨ view < 1 ∨ 1099511627776 < view) := by omega
  obtain ⟨hn1, hn2, _, _⟩ := quo_le q0
  obtain ⟨q, hqq⟩ : ∃ q : Nat, quo n = (q : Int) := ⟨(quo n).toNat, by omega⟩
  obtain ⟨N, hN⟩ : ∃ N : Nat, n = (N : Int) := ⟨n.toNat, by omega⟩
  have hmk : mkAccu K256 by_ n view as = if (as.any (badA K256 n view)) = true then (.zero, 7) else if ((firstsA n as).length : Int) < quo n then (.zero, 3) else ({ (⟨by_, view, (bestA (-1, zero32) ((firstsA n as).take (quo n).toNat)).1, (bestA (-1, zero32) ((firstsA n as).take (quo n).toNat)).2, ((firstsA n as).take (quo n).toNat).map (·.who), zero32⟩ : AccS) with ta := AccS.tag K256 ⟨by_, view, (bestA (-1, zero32) ((firstsA n as).take (quo n).toNat)).1, (bestA (-1, zero32) ((firstsA n as).take (quo n).toNat)).2, ((firstsA n as).take (quo n).toNat).map (·.who), zero32⟩ }, 0) := by
    unfold mkAccu; rw [if_neg n0]
  rw [hqq]
  refine ⟨as.length + 1, ?_⟩
  simp (maxSteps := 1000000) (implicitDefEqProofs := false) only [go_sem, ↓reduceIte]
  refine loop27_2 (kt := K256) hR hw (by omega) (fun ts hA => ?_) (fun j ts hA => ?_) as.length 0 (by omega) (fun x hx => by simp at hx)
  rotate_left
  · simp (maxSteps := 1000000) (implicitDefEqProofs := false) only [go_sem, ↓reduceIte]
    exact bad _ _ (Ext.refl G) (by rw [hmk, if_pos hA])
  rw [if_neg (by rw [hA]; decide)] at hmk
  have hpv : ∀ a ∈ as, 0 ≤ a.pv := fun x hx => by
    have := List.any_eq_false.1 hA x hx
    exact (badA_not (n := n) (view := view) (kt := K256) (by simpa using this)).2.2.2.2.2.1
  simp (maxSteps := 1000000) (implicitDefEqProofs := false) only [go_sem, ↓reduceIte]
  refine ⟨N + 1, ?_⟩
  refine loop27_1 (G0 := G) (as := as) hN (by omega) (by omega) hpv (fun ts k x p hh G2 hrow hB => ?_) N 1 .nils 0 zero32 G (by omega) (by omega) (Row.nil (Ext.refl G)) rfl (Nat.zero_le _)
  obtain ⟨x1, x2⟩ := hrow.one
  have x3 := hrow.lenI
  have xn : x.same .nils = true := (Row.nil (z := (.int .i64 0 : V)) (sz := 1) (Ext.refl G)).like hrow
  rw [List.length_map, List.length_take] at x3
  unfold V.isAgg at x2
  unfold V.lenI at x3
  by_cases hlt : ((firstsA n as).length : Int) < (q : Int)
  · have c5 : ((min q (firstsA n as).length : Nat) : Int) < (q : Int) := by omega
    simp (maxSteps := 1000000) (implicitDefEqProofs := false) only [x1, x2, x3, xn, c5, go_sem, ↓reduceIte]
    exact bad _ _ hrow.1 (by rw [hmk, hqq, if_pos hlt])
  have c5 : ¬ ((min q (firstsA n as).length : Nat) : Int) < (q : Int) := by omega
  have hz : (mkAccu K256 by_ n view as).2 = 0 := by rw [hmk, hqq, if_neg hlt]
  obtain ⟨fs0, hok⟩ := mk_okA hz
  have hmay := hok.may
  clear hok
  have hwf := (mk_wfA (kt := K256) (by_ := by_) (n := n) (view := view) hw hb hv).1
  rw [hmk, hqq, if_neg hlt, Int.toNat_natCast] at h hmay hwf
  have hne : (firstsA n as).take q ≠ [] := by
    intro e
    have := congrArg List.length e
    rw [List.length_take, List.length_nil] at this; omega
  unfold refB at hB
  rw [if_neg hne] at hB
  generalize (firstsA n as).take q = fs at *
  rw [hB] at h hmay hwf
  dsimp only at h hmay hwf
  rw [show fs.map (fun a => V.int .i64 a.who) = (fs.map (·.who)).map (V.int .i64) by rw [List.map_map]; rfl] at hrow
  have hw0 : AccS.wf ⟨by_, view, p, hh, fs.map (·.who), zero32⟩ := ⟨hwf.who, hwf.vi, hwf.pv, hwf.ph, hwf.fr, h32_zero⟩
  have hm0 : AccS.May ⟨by_, view, p, hh, fs.map (·.who), zero32⟩ := hmay
  simp (maxSteps := 1000000) (implicitDefEqProofs := false) only [x1, x2, x3, xn, c5, hT, ZTa_eq, go_sem, ↓reduceIte]
  refine ⟨fs.map (·.who), ⟨frv_row hrow, hw0, hm0⟩, ?_⟩
  refine ⟨_, _, low_accu hrow, ?_⟩
  exact h
end Go.Proofs.YtjbglbhcbenhpaaDoor.Sha
