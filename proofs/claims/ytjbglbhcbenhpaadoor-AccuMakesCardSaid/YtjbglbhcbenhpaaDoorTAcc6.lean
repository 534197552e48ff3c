/- Accumulations: the law. -/
import Derived.Test.YtjbglbhcbenhpaaDoorTAcc5
namespace Go.Proofs.YtjbglbhcbenhpaaDoor.Sha
open Go Go.Abs Go.Abs.Sha Go.Abs.Srt
set_option linter.unusedSimpArgs false
set_option linter.unusedVariables false
set_option maxRecDepth 100000
def lp6_0 : PC :=
  ((PC.reg [mm 57 11, mm 58 1, nn (.t 59) (.len (.t 58)), nn (.t 60) (.bin .lss (.t 57) (.t 59))]).seq (PC.cond (.t 60) PC.skip (PC.exit 2))).seq
    ((PC.block 3 ((PC.regD 0 [mm 63 1, mm 64 11, nn (.t 65) (.iadrS 101 (.t 63) (.t 64)), nn (.t 66) (.fadr 0 0 (.t 65)), nn (.t 67) (.load 1 false (.t
    66)), nn (.t 68) (.fadr 4 35 (.v 5)), nn (.t 69) (.load 1 false (.t 68)), mm 70 10, nn (.t 71) (.iadrS 1 (.t 69) (.t 70)), nn (.t 72) (.load 1 false
    (.t 71)), nn (.t 73) (.bin .eql (.t 67) (.t 72))] []).seq (PC.cond (.t 73) (((PC.regD 0 [mm 74 1, mm 75 11, nn (.t 76) (.iadrS 101 (.t 74) (.t 75)),
    nn (.t 77) (.fadr 5 36 (.t 76)), nn (.t 78) (.load 1 false (.t 77)), nn (.t 79) (.fadr 2 2 (.v 5)), nn (.t 80) (.load 1 false (.t 79)), nn (.t 81)
    (.bin .gtr (.t 78) (.t 80))] []).seq (PC.cond (.t 81) ((PC.reg [nn (.v 4) (.mv true (.c (.v (.bool false))))]).seq PC.ret) PC.skip)).seq ((PC.regD 0
    [mm 82 9, nn (.t 83) (.mv false (.t 82)), gm 84 1 83 false, gm 85 11 83 false, ⟨.t 86, .iadrS 101 (.t 84) (.t 85), some (.t 83, false)⟩, ⟨.t 87,
    .fadr 5 36 (.t 86), some (.t 83, false)⟩, ⟨.t 88, .load 1 false (.t 87), some (.t 83, false)⟩, ⟨.t 89, .fadr 2 2 (.v 5), some (.t 83, false)⟩, ⟨.t
    90, .load 1 false (.t 89), some (.t 83, false)⟩, ⟨.t 91, .bin .eql (.t 88) (.t 90), some (.t 83, false)⟩, ⟨.t 92, .mv false (.t 91), some (.t 83,
    false)⟩, gm 93 1 92 true, gm 94 11 92 true, ⟨.t 95, .iadrS 101 (.t 93) (.t 94), some (.t 92, true)⟩, ⟨.t 96, .fadr 6 37 (.t 95), some (.t 92, true)⟩,
    ⟨.t 97, .load 32 true (.t 96), some (.t 92, true)⟩, ⟨.t 98, .fadr 3 3 (.v 5), some (.t 92, true)⟩, ⟨.t 99, .load 32 true (.t 98), some (.t 92,
    true)⟩, ⟨.t 100, .eqa false (.arr 32) (.t 97) (.t 99), some (.t 92, true)⟩, ⟨.t 101, .pick (.t 92) (.t 100) (.c (.v (.bool false))), some (.t 83,
    false)⟩, nn (.t 102) (.pick (.t 83) (.c (.v (.bool true))) (.t 101)), ma 9 102] []).seq (PC.exit 2))) PC.skip))).seq (PC.reg [mm 61 11, nn (.t 62)
    (.bin .add (.t 61) (.c (.v (.int .i64 1)))), ma 11 62]))
def lp6_1 : PC :=
  ((PC.reg [mm 50 10, nn (.t 51) (.fadr 4 35 (.v 5)), nn (.t 52) (.load 1 false (.t 51)), nn (.t 53) (.len (.t 52)), nn (.t 54) (.bin .lss (.t 50) (.t
    53))]).seq (PC.cond (.t 54) PC.skip (PC.exit 0))).seq ((PC.block 1 ((PC.reg [nn (.v 11) (.mv true (.c (.v (.int .i64 0))))]).seq (PC.block 2 (PC.loop
    [1, 2, 5, 9, 10, 11] lp6_0)))).seq (PC.reg [mm 55 10, nn (.t 56) (.bin .add (.t 55) (.c (.v (.int .i64 1)))), ma 10 56]))
def pf6 : PF :=
  PF.mk 2 12 113 ((PC.reg [nn (.v 2) (.box (.v 0)), nn (.v 4) (.mv true (.c (.v (.bool false))))]).seq (((PC.reg [mm 12 1, nn (.t 13) (.len (.t 12)), nn
    (.t 14) (.bin .gtr (.t 13) (.c (.v (.int .i64 25))))]).seq (PC.cond (.t 14) ((PC.reg [nn (.t 15) (.call 25 []), ma 4 15]).seq PC.ret) PC.skip)).seq
    ((PC.reg [nn (.t 17) (.fadr 0 0 (.v 2)), nn (.t 18) (.load 1 false (.t 17)), nn (.t 19) (.fadr 1 1 (.v 2)), nn (.t 20) (.load 1 false (.t 19)), nn
    (.t 21) (.fadr 2 2 (.v 2)), nn (.t 22) (.load 1 false (.t 21)), mm 23 1, nn (.t 24) (.call 26 [.t 18, .t 20, .t 22, .t 23]), nn (.t 16) (.mv false
    (.t 24)), nn (.t 25) (.ext (.t 16) 0), nn (.t 26) (.ext (.t 16) 1), nn (.v 5) (.alloc (.agg [.int .i64 0, .int .i64 0, .int .i64 0, .arr .u8 32 [0,
    0, 0, 0, 0, 0, 0, 0, 0, 0, 0, 0, 0, 0, 0, 0, 0, 0, 0, 0, 0, 0, 0, 0, 0, 0, 0, 0, 0, 0, 0, 0], .nils, .arr .u8 32 [0, 0, 0, 0, 0, 0, 0, 0, 0, 0, 0, 0,
    0, 0, 0, 0, 0, 0, 0, 0, 0, 0, 0, 0, 0, 0, 0, 0, 0, 0, 0, 0]])), nn .no (.store 68 (.v 5) (.t 25)), ma 6 26]).seq ((PC.reg [nn (.t 28) (.fadr 0 0 (.v
    2)), nn (.t 29) (.load 1 false (.t 28)), nn (.t 30) (.fadr 1 1 (.v 2)), nn (.t 31) (.load 1 false (.t 30)), nn (.t 32) (.fadr 2 2 (.v 2)), nn (.t 33)
    (.load 1 false (.t 32)), mm 34 1, nn (.t 35) (.call 27 [.t 29, .t 31, .t 33, .t 34]), nn (.t 27) (.mv false (.t 35)), nn (.t 36) (.ext (.t 27) 0), nn
    (.t 37) (.ext (.t 27) 1), nn (.v 7) (.alloc (.agg [.int .i64 0, .int .i64 0, .int .i64 0, .arr .u8 32 [0, 0, 0, 0, 0, 0, 0, 0, 0, 0, 0, 0, 0, 0, 0,
    0, 0, 0, 0, 0, 0, 0, 0, 0, 0, 0, 0, 0, 0, 0, 0, 0], .nils, .arr .u8 32 [0, 0, 0, 0, 0, 0, 0, 0, 0, 0, 0, 0, 0, 0, 0, 0, 0, 0, 0, 0, 0, 0, 0, 0, 0, 0,
    0, 0, 0, 0, 0, 0]])), nn .no (.store 68 (.v 7) (.t 36)), ma 8 37]).seq (((PC.reg [mm 38 6, mm 39 8, nn (.t 40) (.bin .neq (.t 38) (.t 39)), nn (.t
    41) (.mv false (.t 40)), ⟨.t 42, .load 68 true (.v 5), some (.t 41, false)⟩, ⟨.t 43, .load 68 true (.v 7), some (.t 41, false)⟩, ⟨.t 44, .call 28 [.t
    42, .t 43], some (.t 41, false)⟩, ⟨.t 45, .un .not (.t 44), some (.t 41, false)⟩, nn (.t 46) (.pick (.t 41) (.c (.v (.bool true))) (.t 45))]).seq
    (PC.cond (.t 46) ((PC.reg [nn (.v 4) (.mv true (.c (.v (.bool false))))]).seq PC.ret) PC.skip)).seq (((PC.reg [mm 47 6, nn (.t 48) (.bin .neq (.t 47)
    (.c (.v (.int .i64 0))))]).seq (PC.cond (.t 48) ((PC.reg [nn (.t 49) (.call 25 []), ma 4 49]).seq PC.ret) PC.skip)).seq ((PC.reg [nn (.v 9) (.mv true
    (.c (.v (.bool false))))]).seq (((PC.reg [nn (.v 10) (.mv true (.c (.v (.int .i64 0))))]).seq (PC.block 0 (PC.loop [1, 2, 5, 9, 10] lp6_1))).seq
    ((PC.reg [mm 103 9, nn (.t 104) (.mv false (.t 103)), ⟨.t 105, .fadr 1 1 (.v 2), some (.t 104, true)⟩, ⟨.t 106, .load 1 false (.t 105), some (.t 104,
    true)⟩, ⟨.t 107, .load 68 true (.v 5), some (.t 104, true)⟩, ⟨.t 108, .call 29 [.t 106, .t 107], some (.t 104, true)⟩, nn (.t 109) (.pick (.t 104)
    (.t 108) (.c (.v (.bool false)))), nn (.t 110) (.mv false (.t 109)), ⟨.t 111, .call 25 [], some (.t 110, true)⟩, nn (.t 112) (.pick (.t 110) (.t 111)
    (.c (.v (.bool false)))), ma 4 112]).seq PC.ret))))))))) [(.v 4, none)]
attribute [local irreducible] W Wops WopsD WL Wop WopD
variable {E : Env} {C : Abs.Spec} {l : List (Nat × Spec1)} {G : List (Nat × V)} {Q : R → List (Nat × V) → Prop}
set_option maxHeartbeats 1000000
def tell (c : AccS) (x : AttS) : Bool := decide (x.pv = c.pv) && (x.pa == c.ph)
theorem loop6_0 {QQ : Ex → St → Prop} {as : List AttS} {fi : AttS} {told : Bool} {i : Nat} {w v p : Int} {ph fr ta : List Int} {x0 x2 : Bx} {wi : Int} (hl : as.length < 1000000) (hi : fr[i]? = some wi) (hfind : as.find? (fun x => decide (x.who = wi)) = some fi) (hpv : fi.pv ≤ p)
    (hx : ∀ ts (j : Nat), QQ (.exit 2) ⟨[none, some (.v (.sle 101 (as.map AttS.v))), some (.lp 0 []), none, none, some (.lp 1 []), none, none, none, some (.v (.bool (told || tell ⟨w, v, p, ph, fr, ta⟩ fi))), some (.v (.int .i64 (i : Nat))), some (.v (.int .i64 (j : Nat)))], ts, [x0, ⟨false, .agg [.int .i64 w, .int .i64 v, .int .i64 p, .arr .u8 32 ph, .sli .i64 fr, .arr .u8 32 ta]⟩, x2], G⟩) :
    ∀ (k j : Nat), j + k = as.length → (∀ x ∈ as.take j, decide (x.who = wi) = false) → WL (W E C lp6_0) [1, 2, 5, 9, 10, 11] QQ (k + 1) ⟨[none, some (.v (.sle 101 (as.map AttS.v))), some (.lp 0 []), none, none, some (.lp 1 []), none, none, none, some (.v (.bool told)), some (.v (.int .i64 (i : Nat))), some (.v (.int .i64 (j : Nat)))], [], [x0, ⟨false, .agg [.int .i64 w, .int .i64 v, .int .i64 p, .arr .u8 32 ph, .sli .i64 fr, .arr .u8 32 ta]⟩, x2], G⟩ := by
  intro k
  induction k with
  | zero =>
    intro j hj hp
    obtain rfl : j = as.length := by omega
    rw [find_no hp] at hfind; cases hfind
  | succ k ih =>
    intro j hj hp
    have hil : i < fr.length := (List.getElem?_eq_some_iff.1 hi).1
    have gi : fr.getD i 0 = wi := by rw [List.getD_eq_getElem?_getD, hi]; rfl
    have c1 : (j : Int) < (as.length : Int) := by omega
    have c2 : (0 : Int) ≤ (j : Int) := by omega
    have c3 : (i : Int) < (fr.length : Int) := by omega
    have c4 : (0 : Int) ≤ (i : Int) := by omega
    obtain ⟨b, hb⟩ : ∃ b, as[j]? = some b := ⟨as[j]'(by omega), List.getElem?_eq_getElem (by omega)⟩
    have g : (as.map AttS.v).getD j V.nilp = b.v := by rw [List.getD_eq_getElem?_getD, get_v hb]; rfl
    have w1 : IntKind.i64.wrap ((j : Int) + 1) = ((j + 1 : Nat) : Int) := wc (by omega) (by omega)
    have yes := fun h => find_at (p := fun x => decide (x.who = wi)) hb hp h
    have no := fun h => take_one (p := fun x => decide (x.who = wi)) hb hp h
    refine WL_in lp6_0.eq_1 ?_
    by_cases r : b.who = wi
    · have e := yes (decide_eq_true r)
      rw [hfind] at e
      cases e
      obtain ⟨b1, b2, b3, b4, b5, b6, b7, b8⟩ := fi
      dsimp only at hpv r
      have hpn : ¬ p < b6 := by omega
      have d1 : (b1 = wi) = True := eq_true r
      have hx := hx
      unfold tell at hx
      dsimp only at hx
      subst r
      by_cases t : told = true
      · subst t
        simp (maxSteps := 1000000) (implicitDefEqProofs := false) only [c1, c2, c3, c4, gi, g, AttS.v, Int.toNat_natCast, List.length_map, hpv, hpn, go_sem, ↓reduceIte]
        simp only [Bool.true_or] at hx
        exact hx _ j
      · have t : told = false := by simpa using t
        subst t
        simp only [Bool.false_or] at hx
        by_cases e6 : b6 = p
        · subst e6
          simp (maxSteps := 1000000) (implicitDefEqProofs := false) only [c1, c2, c3, c4, gi, g, AttS.v, Int.toNat_natCast, List.length_map, hpv, hpn, Int.lt_irrefl, Int.le_refl, go_sem, ↓reduceIte]
          simp only [decide_true, Bool.true_and] at hx
          exact hx _ j
        · simp (maxSteps := 1000000) (implicitDefEqProofs := false) only [c1, c2, c3, c4, gi, g, AttS.v, Int.toNat_natCast, List.length_map, hpv, hpn, e6, go_sem, ↓reduceIte]
          simp only [e6, decide_false, Bool.false_and] at hx
          exact hx _ j
    · obtain ⟨b1, b2, b3, b4, b5, b6, b7, b8⟩ := b
      dsimp only at r
      simp (maxSteps := 1000000) (implicitDefEqProofs := false) only [c1, c2, c3, c4, gi, g, AttS.v, Int.toNat_natCast, List.length_map, r, w1, go_sem, ↓reduceIte]
      exact ih (j + 1) (by omega) (no (decide_eq_false r))
theorem loop6_1 {QQ : Ex → St → Prop} {as fs : List AttS} {w v p : Int} {ph fr ta : List Int} {x0 x2 : Bx} (hl : as.length < 1000000) (hfl : fs.length < 1000000) (hfr : fr = fs.map (·.who)) (hfind : ∀ x ∈ fs, as.find? (fun y => decide (y.who = x.who)) = some x) (hpv : ∀ x ∈ fs, x.pv ≤ p)
    (hx : ∀ ts (i : Nat) (told : Bool), told = fs.any (tell ⟨w, v, p, ph, fr, ta⟩) → QQ (.exit 0) ⟨[none, some (.v (.sle 101 (as.map AttS.v))), some (.lp 0 []), none, none, some (.lp 1 []), none, none, none, some (.v (.bool told)), some (.v (.int .i64 (i : Nat))), none], ts, [x0, ⟨false, .agg [.int .i64 w, .int .i64 v, .int .i64 p, .arr .u8 32 ph, .sli .i64 fr, .arr .u8 32 ta]⟩, x2], G⟩) :
    ∀ (k i : Nat) (told : Bool), i + k = fs.length → told = (fs.take i).any (tell ⟨w, v, p, ph, fr, ta⟩) → WL (W E C lp6_1) [1, 2, 5, 9, 10] QQ (k + 1) ⟨[none, some (.v (.sle 101 (as.map AttS.v))), some (.lp 0 []), none, none, some (.lp 1 []), none, none, none, some (.v (.bool told)), some (.v (.int .i64 (i : Nat))), none], [], [x0, ⟨false, .agg [.int .i64 w, .int .i64 v, .int .i64 p, .arr .u8 32 ph, .sli .i64 fr, .arr .u8 32 ta]⟩, x2], G⟩ := by
  have hlen : fr.length = fs.length := by rw [hfr, List.length_map]
  intro k
  induction k with
  | zero =>
    intro i told hi ht
    obtain rfl : i = fs.length := by omega
    have c1 : ¬ (fs.length : Int) < (fr.length : Int) := by omega
    refine WL_in lp6_1.eq_1 ?_
    simp (maxSteps := 1000000) (implicitDefEqProofs := false) only [c1, go_sem, ↓reduceIte]
    exact hx _ _ _ (by rw [ht, List.take_length])
  | succ k ih =>
    intro i told hi ht
    have c1 : (i : Int) < (fr.length : Int) := by omega
    have w1 : IntKind.i64.wrap ((i : Int) + 1) = ((i + 1 : Nat) : Int) := wc (by omega) (by omega)
    obtain ⟨b, hb⟩ : ∃ b, fs[i]? = some b := ⟨fs[i]'(by omega), List.getElem?_eq_getElem (by omega)⟩
    have hbm := List.mem_of_getElem? hb
    refine WL_in lp6_1.eq_1 ?_
    simp (maxSteps := 1000000) (implicitDefEqProofs := false) only [c1, go_sem, ↓reduceIte]
    refine ⟨as.length + 1, ?_⟩
    refine loop6_0 (fi := b) (wi := b.who) hl (by rw [hfr, List.getElem?_map, hb]; rfl) (hfind b hbm) (hpv b hbm) (fun ts j => ?_) as.length 0 (by omega) (fun x hx => by simp at hx)
    simp (maxSteps := 1000000) (implicitDefEqProofs := false) only [w1, go_sem, ↓reduceIte]
    refine ih (i + 1) _ (by omega) ?_
    rw [List.take_add_one, hb, List.any_append, ht]
    simp
theorem walk6 (hA : Abs.look l 25 = some ZAx) (hM : Abs.look l 26 = some (ZAm K256)) (hM2 : Abs.look l 27 = some (ZAm K256)) (hS : Abs.look l 28 = some ZS10) (hR : Abs.look l 29 = some (ZRa K256))
    {by_ n view : Int} {as : List AttS} (hb : I64 by_) (hI : I64 n) (hv : I64 view) (hw : ∀ a ∈ as, a.wf) (hlen : as.length < 9223372036854775808) (h : Q (.v (.bool true)) G) : Wf E (specOf l) pf6 [.agg [.int .i64 by_, .int .i64 n, .int .i64 view], .sle 101 (as.map AttS.v)] G Q := by
  by_cases c1 : (as.length : Int) > 25
  · simp (maxSteps := 1000000) (implicitDefEqProofs := false) only [pf6, c1, List.length_map, hA, ZAx_eq, go_sem, ↓reduceIte]
    exact h
  have hok := mk_okA (kt := K256) (by_ := by_) (n := n) (view := view) (l := as)
  have hwf := mk_wfA (kt := K256) (by_ := by_) (n := n) (view := view) hw hb hv
  simp (maxSteps := 1000000) (implicitDefEqProofs := false) only [pf6, c1, List.length_map, hM, ZAm_eq, go_sem, ↓reduceIte]
  refine ⟨as, ⟨rfl, hb, hI, hv, hw, by omega⟩, ?_⟩
  cases hce : mkAccu K256 by_ n view as with
  | mk c e =>
  rw [hce] at hok hwf
  dsimp only at hok hwf
  obtain ⟨q1, q2, q3⟩ := accu_v (c := c)
  unfold V.isAgg at q2
  simp (maxSteps := 1000000) (implicitDefEqProofs := false) only [q1, q2, q3, hM2, ZAm_eq, hce, go_sem, ↓reduceIte]
  refine ⟨as, ⟨rfl, hb, hI, hv, hw, by omega⟩, ?_⟩
  rw [hce]
  simp (maxSteps := 1000000) (implicitDefEqProofs := false) only [q1, q2, q3, hS, ZS10_eq, go_sem, ↓reduceIte]
  refine ⟨c, c, ⟨rfl, rfl, by omega, by omega⟩, ?_⟩
  have hs : sameA c c = true := by unfold sameA; simp
  rw [hs]
  by_cases he : e = 0
  case neg =>
    simp (maxSteps := 1000000) (implicitDefEqProofs := false) only [he, hA, ZAx_eq, go_sem, ↓reduceIte]
    exact h
  subst he
  obtain ⟨fs, hok⟩ := hok rfl
  have hright := hok.right
  obtain ⟨x, hxm, hx1, hx2⟩ := hok.told
  have htold : fs.any (tell c) = true := List.any_eq_true.2 ⟨x, hxm, by unfold tell; rw [decide_eq_true hx1, hx2]; simp⟩
  have hfl : fs.length < 1000000 := by have := hwf.2; rw [hok.fr, List.length_map] at this; omega
  obtain ⟨w, vi, pv, ph, fr, ta⟩ := c
  simp (maxSteps := 1000000) (implicitDefEqProofs := false) only [go_sem, ↓reduceIte]
  refine ⟨fs.length + 1, ?_⟩
  refine loop6_1 (fs := fs) (w := w) (v := vi) (p := pv) (ph := ph) (fr := fr) (ta := ta) (by omega) hfl hok.fr hok.find hok.ge (fun ts i told ht => ?_) fs.length 0 false (by omega) (by simp)
  rw [htold] at ht
  subst ht
  simp (maxSteps := 1000000) (implicitDefEqProofs := false) only [AccS.v, hR, ZRa_eq, go_sem, ↓reduceIte]
  refine ⟨⟨w, vi, pv, ph, fr, ta⟩, ⟨rfl, hwf.1, by have := hwf.2; dsimp only at this ⊢; omega, hI⟩, ?_⟩
  rw [hright]
  simp (maxSteps := 1000000) (implicitDefEqProofs := false) only [hA, ZAx_eq, go_sem, ↓reduceIte]
  exact h
end Go.Proofs.YtjbglbhcbenhpaaDoor.Sha
