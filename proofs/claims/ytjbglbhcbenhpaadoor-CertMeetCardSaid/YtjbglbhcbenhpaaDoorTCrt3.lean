/- Certificates: the reference makes them. -/
import Derived.Test.YtjbglbhcbenhpaaDoorTCrt2
namespace Go.Proofs.YtjbglbhcbenhpaaDoor.Sha
open Go Go.Abs Go.Abs.Sha Go.Abs.Srt
set_option linter.unusedSimpArgs false
set_option linter.unusedVariables false
set_option maxRecDepth 100000
def lp32_0 : PC :=
  ((PC.reg [mm 81 11, mm 82 1, nn (.t 83) (.len (.t 82)), nn (.t 84) (.bin .lss (.t 81) (.t 83))]).seq (PC.cond (.t 84) PC.skip (PC.exit 6))).seq
    ((PC.block 7 ((PC.reg [mm 87 1, mm 88 11, nn (.t 89) (.iadrS 101 (.t 87) (.t 88)), nn (.t 90) (.fadr 0 0 (.t 89)), nn (.t 91) (.load 1 false (.t
    90)), mm 92 10, nn (.t 93) (.bin .eql (.t 91) (.t 92))]).seq (PC.cond (.t 93) ((PC.regW 0 [(0, nn (.t 94) (.fadr 1 101 (.v 8))), (1, nn (.t 95)
    (.load 1 false (.t 94))), (2, mm 96 10), (3, mm 97 1), (4, mm 98 11), (5, nn (.t 99) (.iadrS 101 (.t 97) (.t 98))), (6, nn (.t 100) (.fadr 7 69 (.t
    99))), (7, nn (.t 101) (.load 32 true (.t 100))), (8, nn (.t 102) (.build (.agg [.int .i64 0, .arr .u8 32 [0, 0, 0, 0, 0, 0, 0, 0, 0, 0, 0, 0, 0, 0,
    0, 0, 0, 0, 0, 0, 0, 0, 0, 0, 0, 0, 0, 0, 0, 0, 0, 0]]) [(0, .t 96), (1, .t 101)])), (9, nn (.t 103) (.buildS none 33 (.agg [.int .i64 0, .arr .u8 32
    [0, 0, 0, 0, 0, 0, 0, 0, 0, 0, 0, 0, 0, 0, 0, 0, 0, 0, 0, 0, 0, 0, 0, 0, 0, 0, 0, 0, 0, 0, 0, 0]]) 1 [(0, .t 102)])), (10, nn (.t 104) (.appR 33 40
    (.agg [.int .i64 0, .arr .u8 32 [0, 0, 0, 0, 0, 0, 0, 0, 0, 0, 0, 0, 0, 0, 0, 0, 0, 0, 0, 0, 0, 0, 0, 0, 0, 0, 0, 0, 0, 0, 0, 0]]) (.t 95) (.t
    103))), (11, nn (.t 105) (.fadr 1 101 (.v 8))), (12, nn .no (.store 1 (.t 105) (.t 104)))] []).seq (PC.exit 6)) PC.skip))).seq (PC.reg [mm 85 11, nn
    (.t 86) (.bin .add (.t 85) (.c (.v (.int .i64 1)))), ma 11 86]))
def lp32_1 : PC :=
  ((PC.reg [mm 69 10, mm 70 0, nn (.t 71) (.bin .leq (.t 69) (.t 70)), nn (.t 72) (.mv false (.t 71)), ⟨.t 73, .fadr 1 101 (.v 8), some (.t 72, true)⟩,
    ⟨.t 74, .load 1 false (.t 73), some (.t 72, true)⟩, ⟨.t 75, .len (.t 74), some (.t 72, true)⟩, gm 76 6 72 true, ⟨.t 77, .bin .lss (.t 75) (.t 76),
    some (.t 72, true)⟩, nn (.t 78) (.pick (.t 72) (.t 77) (.c (.v (.bool false))))]).seq (PC.cond (.t 78) PC.skip (PC.exit 4))).seq ((PC.block 5
    ((PC.reg [nn (.v 11) (.mv true (.c (.v (.int .i64 0))))]).seq (PC.block 6 (PC.loop [0, 1, 4, 6, 8, 10, 11] lp32_0)))).seq (PC.reg [mm 79 10, nn (.t
    80) (.bin .add (.t 79) (.c (.v (.int .i64 1)))), ma 10 80]))
def lp32_2 : PC :=
  ((PC.reg [mm 53 9, mm 54 1, nn (.t 55) (.len (.t 54)), nn (.t 56) (.bin .lss (.t 53) (.t 55))]).seq (PC.cond (.t 56) PC.skip (PC.exit 2))).seq
    ((PC.block 3 ((PC.regD 0 [mm 59 1, mm 60 9, nn (.t 61) (.iadrS 101 (.t 59) (.t 60)), nn (.t 62) (.load 101 true (.t 61)), mm 63 1, nn (.t 64) (.iadrS
    101 (.t 63) (.c (.v (.int .i64 0)))), nn (.t 65) (.load 101 true (.t 64)), nn (.t 66) (.call 78 [.t 62, .t 65]), nn (.t 67) (.un .not (.t 66))]
    []).seq (PC.cond (.t 67) ((PC.reg [nn (.t 68) (.build (.agg [.agg [.int .i64 0, .int .i64 0, .int .i64 0, .int .i64 0, .arr .u8 32 [0, 0, 0, 0, 0, 0,
    0, 0, 0, 0, 0, 0, 0, 0, 0, 0, 0, 0, 0, 0, 0, 0, 0, 0, 0, 0, 0, 0, 0, 0, 0, 0], .int .i64 0, .arr .u8 32 [0, 0, 0, 0, 0, 0, 0, 0, 0, 0, 0, 0, 0, 0, 0,
    0, 0, 0, 0, 0, 0, 0, 0, 0, 0, 0, 0, 0, 0, 0, 0, 0], .arr .u8 32 [0, 0, 0, 0, 0, 0, 0, 0, 0, 0, 0, 0, 0, 0, 0, 0, 0, 0, 0, 0, 0, 0, 0, 0, 0, 0, 0, 0,
    0, 0, 0, 0]], .nils]) []), nn .no (.store 102 (.v 4) (.t 68)), nn (.v 5) (.mv true (.c (.v (.int .i64 1))))]).seq PC.ret) PC.skip))).seq (PC.reg [mm
    57 9, nn (.t 58) (.bin .add (.t 57) (.c (.v (.int .i64 1)))), ma 9 58]))
def lp32_3 : PC :=
  ((PC.reg [mm 22 7, mm 23 1, nn (.t 24) (.len (.t 23)), nn (.t 25) (.bin .lss (.t 22) (.t 24))]).seq (PC.cond (.t 25) PC.skip (PC.exit 0))).seq
    ((PC.block 1 ((PC.reg [mm 28 1, mm 29 7, nn (.t 30) (.iadrS 101 (.t 28) (.t 29)), nn (.t 31) (.load 101 true (.t 30)), nn (.t 32) (.call 65 [.t 31]),
    nn (.t 33) (.un .not (.t 32)), nn (.t 34) (.mv false (.t 33)), gm 35 1 34 false, gm 36 7 34 false, ⟨.t 37, .iadrS 101 (.t 35) (.t 36), some (.t 34,
    false)⟩, ⟨.t 38, .fadr 0 0 (.t 37), some (.t 34, false)⟩, ⟨.t 39, .load 1 false (.t 38), some (.t 34, false)⟩, gm 40 0 34 false, ⟨.t 41, .bin .gtr
    (.t 39) (.t 40), some (.t 34, false)⟩, nn (.t 42) (.pick (.t 34) (.c (.v (.bool true))) (.t 41))]).seq (PC.cond (.t 42) ((PC.reg [nn (.t 43) (.build
    (.agg [.agg [.int .i64 0, .int .i64 0, .int .i64 0, .int .i64 0, .arr .u8 32 [0, 0, 0, 0, 0, 0, 0, 0, 0, 0, 0, 0, 0, 0, 0, 0, 0, 0, 0, 0, 0, 0, 0, 0,
    0, 0, 0, 0, 0, 0, 0, 0], .int .i64 0, .arr .u8 32 [0, 0, 0, 0, 0, 0, 0, 0, 0, 0, 0, 0, 0, 0, 0, 0, 0, 0, 0, 0, 0, 0, 0, 0, 0, 0, 0, 0, 0, 0, 0, 0],
    .arr .u8 32 [0, 0, 0, 0, 0, 0, 0, 0, 0, 0, 0, 0, 0, 0, 0, 0, 0, 0, 0, 0, 0, 0, 0, 0, 0, 0, 0, 0, 0, 0, 0, 0]], .nils]) []), nn .no (.store 102 (.v 4)
    (.t 43)), nn (.v 5) (.mv true (.c (.v (.int .i64 7))))]).seq PC.ret) PC.skip))).seq (PC.reg [mm 26 7, nn (.t 27) (.bin .add (.t 26) (.c (.v (.int
    .i64 1)))), ma 7 27]))
def pf32 : PF :=
  PF.mk 2 12 113 ((PC.reg [nn (.v 4) (.alloc (.agg [.agg [.int .i64 0, .int .i64 0, .int .i64 0, .int .i64 0, .arr .u8 32 [0, 0, 0, 0, 0, 0, 0, 0, 0, 0,
    0, 0, 0, 0, 0, 0, 0, 0, 0, 0, 0, 0, 0, 0, 0, 0, 0, 0, 0, 0, 0, 0], .int .i64 0, .arr .u8 32 [0, 0, 0, 0, 0, 0, 0, 0, 0, 0, 0, 0, 0, 0, 0, 0, 0, 0, 0,
    0, 0, 0, 0, 0, 0, 0, 0, 0, 0, 0, 0, 0], .arr .u8 32 [0, 0, 0, 0, 0, 0, 0, 0, 0, 0, 0, 0, 0, 0, 0, 0, 0, 0, 0, 0, 0, 0, 0, 0, 0, 0, 0, 0, 0, 0, 0,
    0]], .nils])), nn (.v 5) (.mv true (.c (.v (.int .i64 0))))]).seq ((PC.reg [mm 12 0, nn (.t 13) (.call 64 [.t 12]), ma 6 13]).seq (((PC.reg [mm 14 6,
    nn (.t 15) (.bin .eql (.t 14) (.c (.v (.int .i64 0)))), nn (.t 16) (.mv false (.t 15)), gm 17 1 16 false, ⟨.t 18, .len (.t 17), some (.t 16, false)⟩,
    ⟨.t 19, .bin .eql (.t 18) (.c (.v (.int .i64 0))), some (.t 16, false)⟩, nn (.t 20) (.pick (.t 16) (.c (.v (.bool true))) (.t 19))]).seq (PC.cond (.t
    20) ((PC.reg [nn (.t 21) (.build (.agg [.agg [.int .i64 0, .int .i64 0, .int .i64 0, .int .i64 0, .arr .u8 32 [0, 0, 0, 0, 0, 0, 0, 0, 0, 0, 0, 0, 0,
    0, 0, 0, 0, 0, 0, 0, 0, 0, 0, 0, 0, 0, 0, 0, 0, 0, 0, 0], .int .i64 0, .arr .u8 32 [0, 0, 0, 0, 0, 0, 0, 0, 0, 0, 0, 0, 0, 0, 0, 0, 0, 0, 0, 0, 0, 0,
    0, 0, 0, 0, 0, 0, 0, 0, 0, 0], .arr .u8 32 [0, 0, 0, 0, 0, 0, 0, 0, 0, 0, 0, 0, 0, 0, 0, 0, 0, 0, 0, 0, 0, 0, 0, 0, 0, 0, 0, 0, 0, 0, 0, 0]], .nils])
    []), nn .no (.store 102 (.v 4) (.t 21)), nn (.v 5) (.mv true (.c (.v (.int .i64 1))))]).seq PC.ret) PC.skip)).seq (((PC.reg [nn (.v 7) (.mv true (.c
    (.v (.int .i64 0))))]).seq (PC.block 0 (PC.loop [0, 1, 4, 6, 7] lp32_3))).seq ((PC.reg [mm 44 1, nn (.t 45) (.iadrS 101 (.t 44) (.c (.v (.int .i64
    0)))), nn (.t 46) (.load 101 true (.t 45)), nn (.t 47) (.build (.agg [.agg [.int .i64 0, .int .i64 0, .int .i64 0, .int .i64 0, .arr .u8 32 [0, 0, 0,
    0, 0, 0, 0, 0, 0, 0, 0, 0, 0, 0, 0, 0, 0, 0, 0, 0, 0, 0, 0, 0, 0, 0, 0, 0, 0, 0, 0, 0], .int .i64 0, .arr .u8 32 [0, 0, 0, 0, 0, 0, 0, 0, 0, 0, 0, 0,
    0, 0, 0, 0, 0, 0, 0, 0, 0, 0, 0, 0, 0, 0, 0, 0, 0, 0, 0, 0], .arr .u8 32 [0, 0, 0, 0, 0, 0, 0, 0, 0, 0, 0, 0, 0, 0, 0, 0, 0, 0, 0, 0, 0, 0, 0, 0, 0,
    0, 0, 0, 0, 0, 0, 0]], .nils]) [(0, .t 46)]), nn (.v 8) (.alloc (.agg [.agg [.int .i64 0, .int .i64 0, .int .i64 0, .int .i64 0, .arr .u8 32 [0, 0,
    0, 0, 0, 0, 0, 0, 0, 0, 0, 0, 0, 0, 0, 0, 0, 0, 0, 0, 0, 0, 0, 0, 0, 0, 0, 0, 0, 0, 0, 0], .int .i64 0, .arr .u8 32 [0, 0, 0, 0, 0, 0, 0, 0, 0, 0, 0,
    0, 0, 0, 0, 0, 0, 0, 0, 0, 0, 0, 0, 0, 0, 0, 0, 0, 0, 0, 0, 0], .arr .u8 32 [0, 0, 0, 0, 0, 0, 0, 0, 0, 0, 0, 0, 0, 0, 0, 0, 0, 0, 0, 0, 0, 0, 0, 0,
    0, 0, 0, 0, 0, 0, 0, 0]], .nils])), nn .no (.store 102 (.v 8) (.t 47))]).seq ((PC.reg [nn (.t 48) (.fadr 0 0 (.v 8)), nn (.t 49) (.fadr 0 0 (.t 48)),
    nn .no (.store 1 (.t 49) (.c (.v (.int .i64 0))))]).seq ((PC.reg [nn (.t 50) (.build (.arr .u8 32 [0, 0, 0, 0, 0, 0, 0, 0, 0, 0, 0, 0, 0, 0, 0, 0, 0,
    0, 0, 0, 0, 0, 0, 0, 0, 0, 0, 0, 0, 0, 0, 0]) []), nn (.t 51) (.fadr 0 0 (.v 8)), nn (.t 52) (.fadr 7 69 (.t 51)), nn .no (.store 32 (.t 52) (.t
    50))]).seq (((PC.reg [nn (.v 9) (.mv true (.c (.v (.int .i64 0))))]).seq (PC.block 2 (PC.loop [0, 1, 4, 6, 8, 9] lp32_2))).seq (((PC.reg [nn (.v 10)
    (.mv true (.c (.v (.int .i64 1))))]).seq (PC.block 4 (PC.loop [0, 1, 4, 6, 8, 10] lp32_1))).seq (((PC.reg [nn (.t 106) (.fadr 1 101 (.v 8)), nn (.t
    107) (.load 1 false (.t 106)), nn (.t 108) (.len (.t 107)), mm 109 6, nn (.t 110) (.bin .lss (.t 108) (.t 109))]).seq (PC.cond (.t 110) ((PC.reg [nn
    (.t 111) (.build (.agg [.agg [.int .i64 0, .int .i64 0, .int .i64 0, .int .i64 0, .arr .u8 32 [0, 0, 0, 0, 0, 0, 0, 0, 0, 0, 0, 0, 0, 0, 0, 0, 0, 0,
    0, 0, 0, 0, 0, 0, 0, 0, 0, 0, 0, 0, 0, 0], .int .i64 0, .arr .u8 32 [0, 0, 0, 0, 0, 0, 0, 0, 0, 0, 0, 0, 0, 0, 0, 0, 0, 0, 0, 0, 0, 0, 0, 0, 0, 0, 0,
    0, 0, 0, 0, 0], .arr .u8 32 [0, 0, 0, 0, 0, 0, 0, 0, 0, 0, 0, 0, 0, 0, 0, 0, 0, 0, 0, 0, 0, 0, 0, 0, 0, 0, 0, 0, 0, 0, 0, 0]], .nils]) []), nn .no
    (.store 102 (.v 4) (.t 111)), nn (.v 5) (.mv true (.c (.v (.int .i64 3))))]).seq PC.ret) PC.skip)).seq ((PC.reg [nn (.t 112) (.load 102 true (.v 8)),
    nn .no (.store 102 (.v 4) (.t 112)), nn (.v 5) (.mv true (.c (.v (.int .i64 0))))]).seq PC.ret))))))))))) [(.v 4, some (102, true)), (.v 5, none)]
attribute [local irreducible] W Wops WopsD WL Wop WopD
variable {E : Env} {C : Abs.Spec} {l : List (Nat × Spec1)} {G : List (Nat × V)} {Q : R → List (Nat × V) → Prop}
set_option maxHeartbeats 1000000
theorem get_v {as : List AttS} {j : Nat} {b : AttS} (h : as[j]? = some b) : (as.map AttS.v)[j]? = some b.v := by rw [List.getElem?_map, h]; rfl
theorem any_of {p : AttS → Bool} {as : List AttS} {j : Nat} {b : AttS} (h : as[j]? = some b) (hp : p b = true) : as.any p = true := List.any_eq_true.2 ⟨b, List.mem_of_getElem? h, hp⟩
theorem any_no {p : AttS → Bool} {as : List AttS} (h : ∀ x ∈ as.take as.length, p x = false) : as.any p = false := by
  rw [List.take_length] at h
  exact List.any_eq_false.2 fun x hx => by rw [h x hx]; decide
theorem take_one {p : AttS → Bool} {as : List AttS} {j : Nat} {b : AttS} (h : as[j]? = some b) (hj : ∀ x ∈ as.take j, p x = false) (hp : p b = false) : ∀ x ∈ as.take (j + 1), p x = false := fun x hx => by
  rw [List.take_add_one, h] at hx
  rcases List.mem_append.1 hx with hx | hx
  · exact hj x hx
  · rw [Option.toList_some, List.mem_singleton] at hx; rw [hx]; exact hp
theorem loop32_3 {kt : List Int} (hR : Abs.look l 65 = some (SRi kt)) {QQ : Ex → St → Prop} {n q : Int} {as : List AttS} (hw : ∀ a ∈ as, a.wf) (hl : as.length < 1000000)
    (hx : ∀ ts, (as.any fun x => !(x.right kt) || decide (n < x.who)) = false → QQ (.exit 0) ⟨[some (.v (.int .i64 n)), some (.v (.sle 101 (as.map AttS.v))), none, none, some (.lp 0 []), none, some (.v (.int .i64 q)), some (.v (.int .i64 (as.length : Nat))), none, none, none, none], ts, [⟨false, .agg [AttS.zero.v, .nils]⟩], G⟩)
    (hr : ∀ (j : Nat) ts, (as.any fun x => !(x.right kt) || decide (n < x.who)) = true → QQ .ret ⟨[some (.v (.int .i64 n)), some (.v (.sle 101 (as.map AttS.v))), none, none, some (.lp 0 []), some (.v (.int .i64 7)), some (.v (.int .i64 q)), some (.v (.int .i64 (j : Nat))), none, none, none, none], ts, [⟨false, .agg [AttS.zero.v, .nils]⟩], G⟩) :
    ∀ (k j : Nat), j + k = as.length → (∀ x ∈ as.take j, (!(x.right kt) || decide (n < x.who)) = false) → WL (W E (specOf l) lp32_3) [0, 1, 4, 6, 7] QQ (k + 1) ⟨[some (.v (.int .i64 n)), some (.v (.sle 101 (as.map AttS.v))), none, none, some (.lp 0 []), none, some (.v (.int .i64 q)), some (.v (.int .i64 (j : Nat))), none, none, none, none], [], [⟨false, .agg [AttS.zero.v, .nils]⟩], G⟩ := by
  intro k
  induction k with
  | zero =>
    intro j hj hp
    obtain rfl : j = as.length := by omega
    refine WL_in lp32_3.eq_1 ?_
    simp (maxSteps := 1000000) (implicitDefEqProofs := false) only [Int.lt_irrefl, List.length_map, go_sem, ↓reduceIte]
    exact hx _ (any_no hp)
  | succ k ih =>
    intro j hj hp
    have c1 : (j : Int) < (as.length : Int) := by omega
    have c2 : (0 : Int) ≤ (j : Int) := by omega
    obtain ⟨b, hb⟩ : ∃ b, as[j]? = some b := ⟨as[j]'(by omega), List.getElem?_eq_getElem (by omega)⟩
    have g : (as.map AttS.v).getD j V.nilp = b.v := by rw [List.getD_eq_getElem?_getD, get_v hb]; rfl
    have w1 : IntKind.i64.wrap ((j : Int) + 1) = ((j + 1 : Nat) : Int) := wc (by omega) (by omega)
    have hbw := hw b (List.mem_of_getElem? hb)
    have yes := fun h => any_of (p := fun x => !(x.right kt) || decide (n < x.who)) hb h
    have no := fun h => take_one (p := fun x => !(x.right kt) || decide (n < x.who)) hb hp h
    obtain ⟨b1, b2, b3, b4, b5, b6, b7, b8⟩ := b
    refine WL_in lp32_3.eq_1 ?_
    simp (maxSteps := 1000000) (implicitDefEqProofs := false) only [c1, c2, hR, SRi_eq, g, AttS.v, Int.toNat_natCast, List.length_map, w1, go_sem, ↓reduceIte]
    refine ⟨hbw, ?_⟩
    by_cases r : (⟨b1, b2, b3, b4, b5, b6, b7, b8⟩ : AttS).right kt = true
    · simp (maxSteps := 1000000) (implicitDefEqProofs := false) only [c1, c2, r, g, AttS.v, Int.toNat_natCast, List.length_map, w1, go_sem, ↓reduceIte]
      refine ⟨fun r2 => hr j _ (yes ?_), fun r2 => ih (j + 1) (by omega) (no ?_)⟩
      · simp only [r, Bool.not_true, Bool.false_or, decide_eq_true_eq]; exact r2
      · simp only [r, Bool.not_true, Bool.false_or, decide_eq_false_iff_not]; exact Int.not_lt.2 r2
    · simp (maxSteps := 1000000) (implicitDefEqProofs := false) only [c1, c2, r, g, AttS.v, Int.toNat_natCast, List.length_map, w1, go_sem, ↓reduceIte]
      exact hr j _ (yes (by simp [r]))
theorem loop32_2 (hA : Abs.look l 78 = some SAl) {QQ : Ex → St → Prop} {n q : Int} {as : List AttS} {a : AttS} {c0 : Bx} (h0 : as[0]? = some a) (hl : as.length < 1000000)
    (hx : ∀ ts, (as.any fun x => !(x.alike a)) = false → QQ (.exit 2) ⟨[some (.v (.int .i64 n)), some (.v (.sle 101 (as.map AttS.v))), none, none, some (.lp 0 []), none, some (.v (.int .i64 q)), none, some (.lp 1 []), some (.v (.int .i64 (as.length : Nat))), none, none], ts, [⟨false, .agg [AttS.zero.v, .nils]⟩, c0], G⟩)
    (hr : ∀ (j : Nat) ts, (as.any fun x => !(x.alike a)) = true → QQ .ret ⟨[some (.v (.int .i64 n)), some (.v (.sle 101 (as.map AttS.v))), none, none, some (.lp 0 []), some (.v (.int .i64 1)), some (.v (.int .i64 q)), none, some (.lp 1 []), some (.v (.int .i64 (j : Nat))), none, none], ts, [⟨false, .agg [AttS.zero.v, .nils]⟩, c0], G⟩) :
    ∀ (k j : Nat), j + k = as.length → (∀ x ∈ as.take j, (!(x.alike a)) = false) → WL (W E (specOf l) lp32_2) [0, 1, 4, 6, 8, 9] QQ (k + 1) ⟨[some (.v (.int .i64 n)), some (.v (.sle 101 (as.map AttS.v))), none, none, some (.lp 0 []), none, some (.v (.int .i64 q)), none, some (.lp 1 []), some (.v (.int .i64 (j : Nat))), none, none], [], [⟨false, .agg [AttS.zero.v, .nils]⟩, c0], G⟩ := by
  have h00 := (List.getElem?_eq_some_iff.1 h0).1
  have g0 : (as.map AttS.v).getD 0 V.nilp = a.v := by rw [List.getD_eq_getElem?_getD, get_v h0]; rfl
  intro k
  induction k with
  | zero =>
    intro j hj hp
    obtain rfl : j = as.length := by omega
    refine WL_in lp32_2.eq_1 ?_
    simp (maxSteps := 1000000) (implicitDefEqProofs := false) only [Int.lt_irrefl, List.length_map, go_sem, ↓reduceIte]
    exact hx _ (any_no hp)
  | succ k ih =>
    intro j hj hp
    have c1 : (j : Int) < (as.length : Int) := by omega
    have c2 : (0 : Int) ≤ (j : Int) := by omega
    have c3 : (0 : Int) < (as.length : Int) := by omega
    obtain ⟨b, hb⟩ : ∃ b, as[j]? = some b := ⟨as[j]'(by omega), List.getElem?_eq_getElem (by omega)⟩
    have g : (as.map AttS.v).getD j V.nilp = b.v := by rw [List.getD_eq_getElem?_getD, get_v hb]; rfl
    have w1 : IntKind.i64.wrap ((j : Int) + 1) = ((j + 1 : Nat) : Int) := wc (by omega) (by omega)
    have yes := fun h => any_of (p := fun x => !(x.alike a)) hb h
    have no := fun h => take_one (p := fun x => !(x.alike a)) hb hp h
    obtain ⟨b1, b2, b3, b4, b5, b6, b7, b8⟩ := b
    obtain ⟨a1, a2, a3, a4, a5, a6, a7, a8⟩ := a
    refine WL_in lp32_2.eq_1 ?_
    by_cases r : (⟨b1, b2, b3, b4, b5, b6, b7, b8⟩ : AttS).alike ⟨a1, a2, a3, a4, a5, a6, a7, a8⟩ = true
    · simp (maxSteps := 1000000) (implicitDefEqProofs := false) only [c1, c2, c3, r, hA, SAl_eq, g, g0, AttS.v, Int.toNat_natCast, Int.toNat_zero, List.length_map, w1, go_sem, ↓reduceIte]
      refine ih (j + 1) (by omega) (no ?_)
      simp only [r, Bool.not_true]
    · simp (maxSteps := 1000000) (implicitDefEqProofs := false) only [c1, c2, c3, r, hA, SAl_eq, g, g0, AttS.v, Int.toNat_natCast, Int.toNat_zero, List.length_map, w1, go_sem, ↓reduceIte]
      refine hr j _ (yes ?_)
      simp only [r, Bool.not_false]
theorem find_at {p : AttS → Bool} {as : List AttS} {j : Nat} {b : AttS} (h : as[j]? = some b) (hj : ∀ x ∈ as.take j, p x = false) (hp : p b = true) : as.find? p = some b := by
  have e : as = as.take j ++ (b :: as.drop (j + 1)) := by
    have := List.getElem?_eq_some_iff.1 h
    obtain ⟨h1, h2⟩ := this
    rw [← h2, ← List.drop_eq_getElem_cons h1, List.take_append_drop]
  rw [e, List.find?_append, List.find?_eq_none.2 (fun x hx => by rw [hj x hx]; decide), List.find?_cons, hp]; rfl
theorem find_no {p : AttS → Bool} {as : List AttS} (h : ∀ x ∈ as.take as.length, p x = false) : as.find? p = none := by
  rw [List.take_length] at h
  exact List.find?_eq_none.2 fun x hx => by rw [h x hx]; decide
theorem firstsA_succ {k : Nat} {l : List AttS} : firstsA ((k + 1 : Nat) : Int) l = firstsA (k : Int) l ++ (l.find? fun a => decide (a.who = ((k + 1 : Nat) : Int))).toList := by
  unfold firstsA
  rw [Int.toNat_natCast, Int.toNat_natCast, List.range'_concat, List.filterMap_append, Nat.one_mul, Nat.add_comm 1 k]
  congr 1
theorem firstsA_zero {l : List AttS} : firstsA ((0 : Nat) : Int) l = [] := rfl
theorem firstsA_pre {k : Nat} {l : List AttS} : ∀ d : Nat, ∃ m, firstsA ((k + d : Nat) : Int) l = firstsA (k : Int) l ++ m
  | 0 => ⟨[], by rw [List.append_nil]; rfl⟩
  | d + 1 => by
    obtain ⟨m, hm⟩ := firstsA_pre (k := k) (l := l) d
    exact ⟨m ++ _, by rw [← Nat.add_assoc, firstsA_succ, hm, List.append_assoc]⟩
theorem loop32_0 {QQ : Ex → St → Prop} {n q : Int} {kk : Nat} {as : List AttS} {a x : V} {r0 : Bx} {els : List V} {G0 : List (Nat × V)} (hl : as.length < 1000000) (hel : els.length < 1000000) (ha : V.size a = 101) (hsm : ∀ u ∈ els, V.size u = 33 ∧ u.same (.agg [.int .i64 0, .arr .u8 32 [0, 0, 0, 0, 0, 0, 0, 0, 0, 0, 0, 0, 0, 0, 0, 0, 0, 0, 0, 0, 0, 0, 0, 0, 0, 0, 0, 0, 0, 0, 0, 0]]) = true) (hrow : Row G0 G 33 (.agg [.int .i64 0, .arr .u8 32 [0, 0, 0, 0, 0, 0, 0, 0, 0, 0, 0, 0, 0, 0, 0, 0, 0, 0, 0, 0, 0, 0, 0, 0, 0, 0, 0, 0, 0, 0, 0, 0]]) x els)
    (hx : ∀ ts (j : Nat) x' G2, Row G0 G2 33 (.agg [.int .i64 0, .arr .u8 32 [0, 0, 0, 0, 0, 0, 0, 0, 0, 0, 0, 0, 0, 0, 0, 0, 0, 0, 0, 0, 0, 0, 0, 0, 0, 0, 0, 0, 0, 0, 0, 0]]) x' (els ++ (as.find? fun w => decide (w.who = (kk : Int))).toList.map fun w => sgV (w.who, w.ta)) → QQ (.exit 6) ⟨[some (.v (.int .i64 n)), some (.v (.sle 101 (as.map AttS.v))), none, none, some (.lp 0 []), none, some (.v (.int .i64 q)), none, some (.lp 1 []), none, some (.v (.int .i64 kk)), some (.v (.int .i64 (j : Nat)))], ts, [r0, ⟨false, .agg [a, x']⟩], G2⟩) :
    ∀ (k j : Nat), j + k = as.length → (∀ w ∈ as.take j, decide (w.who = (kk : Int)) = false) → WL (W E C lp32_0) [0, 1, 4, 6, 8, 10, 11] QQ (k + 1) ⟨[some (.v (.int .i64 n)), some (.v (.sle 101 (as.map AttS.v))), none, none, some (.lp 0 []), none, some (.v (.int .i64 q)), none, some (.lp 1 []), none, some (.v (.int .i64 kk)), some (.v (.int .i64 (j : Nat)))], [], [r0, ⟨false, .agg [a, x]⟩], G⟩ := by
  intro k
  induction k with
  | zero =>
    intro j hj hp
    obtain rfl : j = as.length := by omega
    refine WL_in lp32_0.eq_1 ?_
    simp (maxSteps := 1000000) (implicitDefEqProofs := false) only [Int.lt_irrefl, List.length_map, go_sem, ↓reduceIte]
    refine hx _ _ _ _ ?_
    rw [find_no hp, Option.toList_none, List.map_nil, List.append_nil]; exact hrow
  | succ k ih =>
    intro j hj hp
    have c1 : (j : Int) < (as.length : Int) := by omega
    have c2 : (0 : Int) ≤ (j : Int) := by omega
    obtain ⟨b, hb⟩ : ∃ b, as[j]? = some b := ⟨as[j]'(by omega), List.getElem?_eq_getElem (by omega)⟩
    have g : (as.map AttS.v).getD j V.nilp = b.v := by rw [List.getD_eq_getElem?_getD, get_v hb]; rfl
    have w1 : IntKind.i64.wrap ((j : Int) + 1) = ((j + 1 : Nat) : Int) := wc (by omega) (by omega)
    have yes := fun h => find_at (p := fun w => decide (w.who = (kk : Int))) hb hp h
    have no := fun h => take_one (p := fun w => decide (w.who = (kk : Int))) hb hp h
    obtain ⟨b1, b2, b3, b4, b5, b6, b7, b8⟩ := b
    obtain ⟨x1, x2⟩ := hrow.one
    unfold V.isAgg at x2
    refine WL_in lp32_0.eq_1 ?_
    by_cases r : b1 = (kk : Int)
    · rw [yes (decide_eq_true r)] at hx
      simp (maxSteps := 1000000) (implicitDefEqProofs := false) only [c1, c2, r, g, AttS.v, Int.toNat_natCast, List.length_map, w1, ha, x1, x2, go_sem, ↓reduceIte]
      subst r
      refine Row.app (G0 := G0) (sz := 33) (z := (.agg [.int .i64 0, .arr .u8 32 [0, 0, 0, 0, 0, 0, 0, 0, 0, 0, 0, 0, 0, 0, 0, 0, 0, 0, 0, 0, 0, 0, 0, 0, 0, 0, 0, 0, 0, 0, 0, 0]])) (y := sgV ((kk : Int), b8)) (els := els) hrow (by omega) ⟨rfl, rfl⟩ rfl hsm (fun x' G2 hr2 => ?_)
      obtain ⟨y1, y2⟩ := hr2.one
      unfold V.isAgg at y2
      have yl := hrow.like hr2
      simp (maxSteps := 1000000) (implicitDefEqProofs := false) only [ha, x1, x2, y1, y2, yl, go_sem, ↓reduceIte]
      exact hx _ j x' G2 hr2
    · simp (maxSteps := 1000000) (implicitDefEqProofs := false) only [c1, c2, r, g, AttS.v, Int.toNat_natCast, List.length_map, w1, go_sem, ↓reduceIte]
      exact ih (j + 1) (by omega) (no (decide_eq_false r))
theorem sg_ok {fs : List AttS} : ∀ u ∈ fs.map (fun w => sgV (w.who, w.ta)), V.size u = 33 ∧ u.same (.agg [.int .i64 0, .arr .u8 32 [0, 0, 0, 0, 0, 0, 0, 0, 0, 0, 0, 0, 0, 0, 0, 0, 0, 0, 0, 0, 0, 0, 0, 0, 0, 0, 0, 0, 0, 0, 0, 0]]) = true := fun u hu => by
  obtain ⟨w, _, rfl⟩ := List.mem_map.1 hu
  exact ⟨rfl, rfl⟩
theorem loop32_1 {QQ : Ex → St → Prop} {N q : Nat} {n : Int} {as : List AttS} {a : V} {r0 : Bx} {G0 : List (Nat × V)} (hn : n = (N : Int)) (hN : N < 1000) (hl : as.length < 1000000) (ha : V.size a = 101)
    (hx : ∀ ts (k : Nat) x G2, Row G0 G2 33 (.agg [.int .i64 0, .arr .u8 32 [0, 0, 0, 0, 0, 0, 0, 0, 0, 0, 0, 0, 0, 0, 0, 0, 0, 0, 0, 0, 0, 0, 0, 0, 0, 0, 0, 0, 0, 0, 0, 0]]) x (((firstsA n as).take q).map fun w => sgV (w.who, w.ta)) → QQ (.exit 4) ⟨[some (.v (.int .i64 n)), some (.v (.sle 101 (as.map AttS.v))), none, none, some (.lp 0 []), none, some (.v (.int .i64 (q : Nat))), none, some (.lp 1 []), none, some (.v (.int .i64 (k : Nat))), none], ts, [r0, ⟨false, .agg [a, x]⟩], G2⟩) :
    ∀ (d k : Nat) x G, k + d = N + 1 → 1 ≤ k → Row G0 G 33 (.agg [.int .i64 0, .arr .u8 32 [0, 0, 0, 0, 0, 0, 0, 0, 0, 0, 0, 0, 0, 0, 0, 0, 0, 0, 0, 0, 0, 0, 0, 0, 0, 0, 0, 0, 0, 0, 0, 0]]) x ((firstsA ((k - 1 : Nat) : Int) as).map fun w => sgV (w.who, w.ta)) → (firstsA ((k - 1 : Nat) : Int) as).length ≤ q → WL (W E C lp32_1) [0, 1, 4, 6, 8, 10] QQ (d + 1) ⟨[some (.v (.int .i64 n)), some (.v (.sle 101 (as.map AttS.v))), none, none, some (.lp 0 []), none, some (.v (.int .i64 (q : Nat))), none, some (.lp 1 []), none, some (.v (.int .i64 (k : Nat))), none], [], [r0, ⟨false, .agg [a, x]⟩], G⟩ := by
  intro d
  induction d with
  | zero =>
    intro k x G hk h1 hrow hle
    obtain rfl : k = N + 1 := by omega
    have c1 : ¬ ((N + 1 : Nat) : Int) ≤ n := by omega
    refine WL_in lp32_1.eq_1 ?_
    simp (maxSteps := 1000000) (implicitDefEqProofs := false) only [c1, go_sem, ↓reduceIte]
    refine hx _ _ _ _ ?_
    rw [Nat.add_sub_cancel] at hle hrow
    rw [hn, List.take_of_length_le hle]; exact hrow
  | succ d ih =>
    intro k x G hk h1 hrow hle
    have c1 : (k : Int) ≤ n := by omega
    have w1 : IntKind.i64.wrap ((k : Int) + 1) = ((k + 1 : Nat) : Int) := wc (by omega) (by omega)
    obtain ⟨x1, x2⟩ := hrow.one
    have x3 := hrow.lenI
    rw [List.length_map] at x3
    unfold V.isAgg at x2
    unfold V.lenI at x3
    refine WL_in lp32_1.eq_1 ?_
    by_cases hq : (firstsA ((k - 1 : Nat) : Int) as).length < q
    · have c2 : ((firstsA ((k - 1 : Nat) : Int) as).length : Int) < (q : Int) := by omega
      simp (maxSteps := 1000000) (implicitDefEqProofs := false) only [c1, c2, x1, x2, x3, ha, go_sem, ↓reduceIte]
      refine ⟨as.length + 1, ?_⟩
      refine loop32_0 (G0 := G0) (els := (firstsA ((k - 1 : Nat) : Int) as).map fun w => sgV (w.who, w.ta)) hl (by rw [List.length_map]; have := firstsA_len ((k - 1 : Nat) : Int) as; rw [Int.toNat_natCast] at this; omega) ha sg_ok hrow (fun ts j x' G2 hr2 => ?_) as.length 0 (by omega) (fun w hw => by simp at hw)
      simp (maxSteps := 1000000) (implicitDefEqProofs := false) only [w1, go_sem, ↓reduceIte]
      obtain ⟨k, rfl⟩ : ∃ k', k = k' + 1 := ⟨k - 1, by omega⟩
      rw [Nat.add_sub_cancel] at hr2 hq
      rw [← List.map_append, ← firstsA_succ] at hr2
      refine ih (k + 1 + 1) x' G2 (by omega) (by omega) hr2 ?_
      rw [Nat.add_sub_cancel, firstsA_succ, List.length_append]
      have : ∀ o : Option AttS, o.toList.length ≤ 1 := fun o => by cases o <;> simp
      have := this (as.find? fun a => decide (a.who = ((k + 1 : Nat) : Int)))
      omega
    · have c2 : ¬ ((firstsA ((k - 1 : Nat) : Int) as).length : Int) < (q : Int) := by omega
      simp (maxSteps := 1000000) (implicitDefEqProofs := false) only [c1, c2, x1, x2, x3, ha, go_sem, ↓reduceIte]
      refine hx _ _ _ _ ?_
      obtain ⟨m, hm⟩ := firstsA_pre (k := k - 1) (l := as) (N - (k - 1))
      rw [show k - 1 + (N - (k - 1)) = N by omega, ← hn] at hm
      rw [hm, List.take_append_of_le_length (by omega), List.take_of_length_le hle]
      exact hrow
theorem walk32 (hQ : Abs.look l 64 = some ZQu) (hR : Abs.look l 65 = some (SRi K256)) (hA : Abs.look l 78 = some SAl) {n : Int} {as : List AttS} (hI : I64 n) (hw : ∀ a ∈ as, a.wf) (hl : as.length ≤ 39) (h : Q (.tup [(mkCert K256 n as).1.v, .int .i64 (mkCert K256 n as).2]) G) :
    Wf E (specOf l) pf32 [.int .i64 n, .sle 101 (as.map AttS.v)] G (fun r G' => ∃ r2 G2, Low G r G' r2 G2 ∧ Q r2 G2) := by
  have bad : ∀ G' (e : Int), Ext G G' → mkCert K256 n as = (.zero, e) → ∃ r2 G2, Low G (.tup [.agg [AttS.zero.v, .nils], .int .i64 e]) G' r2 G2 ∧ Q r2 G2 := fun G' e he hm => by
    rw [hm] at h
    exact ⟨_, _, low_cert (z := (.agg [.int .i64 0, .arr .u8 32 [0, 0, 0, 0, 0, 0, 0, 0, 0, 0, 0, 0, 0, 0, 0, 0, 0, 0, 0, 0, 0, 0, 0, 0, 0, 0, 0, 0, 0, 0, 0, 0]])) (Row.nil he), h⟩
  simp (maxSteps := 1000000) (implicitDefEqProofs := false) (disch := omega) only [pf32, hQ, ZQu_eq, List.length_map, go_sem, ↓reduceIte, w64]
  refine ⟨hI, ?_⟩
  by_cases hq : quo n = 0
  · simp (maxSteps := 1000000) (implicitDefEqProofs := false) only [hq, List.length_map, go_sem, ↓reduceIte]
    refine bad _ _ (Ext.refl G) ?_
    unfold mkCert; split
    · rfl
    · rw [if_pos hq]
  cases as with
  | nil =>
    simp (maxSteps := 1000000) (implicitDefEqProofs := false) only [hq, List.length_map, List.length_nil, Int.natCast_zero, go_sem, ↓reduceIte]
    exact bad _ _ (Ext.refl G) rfl
  | cons a as =>
    have hr : ¬ ((as.length + 1 : Nat) : Int) = 0 := by omega
    have hlen : as.length + 1 ≤ 39 := hl
    obtain ⟨hn1, hn2, _, _⟩ := quo_le hq
    have hqn := quo_nn n
    obtain ⟨q, hqq⟩ : ∃ q : Nat, quo n = (q : Int) := ⟨(quo n).toNat, by omega⟩
    obtain ⟨N, hN⟩ : ∃ N : Nat, n = (N : Int) := ⟨n.toNat, by omega⟩
    simp (maxSteps := 1000000) (implicitDefEqProofs := false) only [hq, hr, List.length_map, go_sem, ↓reduceIte]
    rw [hqq] at hqn hq ⊢
    refine ⟨as.length + 1 + 1, ?_⟩
    refine loop32_3 (kt := K256) hR (as := a :: as) hw (by simp; omega) (fun ts h3 => ?_) (fun j ts h3 => ?_) (as.length + 1) 0 (by simp) (fun x hx => by simp at hx)
    rotate_left
    · simp (maxSteps := 1000000) (implicitDefEqProofs := false) only [AttS.v, AttS.zero, go_sem, ↓reduceIte]
      refine bad _ _ (Ext.refl G) ?_
      show (if _ then _ else _) = _
      rw [hqq, if_neg hq]
      exact if_pos h3
    obtain ⟨a1, a2, a3, a4, a5, a6, a7, a8⟩ := a
    have c3 : (0 : Int) < ((as.length + 1 : Nat) : Int) := by omega
    simp (maxSteps := 1000000) (implicitDefEqProofs := false) only [List.length_map, c3, AttS.v, AttS.zero, go_sem, ↓reduceIte]
    refine ⟨as.length + 1 + 1, ?_⟩
    refine loop32_2 (q := (q : Int)) hA (as := ⟨a1, a2, a3, a4, a5, a6, a7, a8⟩ :: as) (a := ⟨a1, a2, a3, a4, a5, a6, a7, a8⟩) (c0 := ⟨false, .agg [(bareA ⟨a1, a2, a3, a4, a5, a6, a7, a8⟩).v, .nils]⟩) rfl (by simp; omega) (fun ts h2 => ?_) (fun j ts h2 => ?_) (as.length + 1) 0 (by simp) (fun x hx => by simp at hx)
    rotate_left
    · simp (maxSteps := 1000000) (implicitDefEqProofs := false) only [AttS.v, AttS.zero, go_sem, ↓reduceIte]
      refine bad _ _ (Ext.refl G) ?_
      show (if _ then _ else _) = _
      rw [hqq, if_neg hq, if_neg (show ¬ ((⟨a1, a2, a3, a4, a5, a6, a7, a8⟩ :: as : List AttS).any fun x => !AttS.right K256 x || decide (n < x.who)) = true by rw [h3]; decide)]
      exact if_pos h2
    have hmk : mkCert K256 n (⟨a1, a2, a3, a4, a5, a6, a7, a8⟩ :: as) = if ((firstsA n (⟨a1, a2, a3, a4, a5, a6, a7, a8⟩ :: as)).length : Int) < (q : Int) then (.zero, 3) else (⟨bareA ⟨a1, a2, a3, a4, a5, a6, a7, a8⟩, ((firstsA n (⟨a1, a2, a3, a4, a5, a6, a7, a8⟩ :: as)).take q).map fun x => (x.who, x.ta)⟩, 0) := by
      show (if _ then _ else _) = _
      rw [hqq, if_neg hq, if_neg (show ¬ ((⟨a1, a2, a3, a4, a5, a6, a7, a8⟩ :: as : List AttS).any fun x => !AttS.right K256 x || decide (n < x.who)) = true by rw [h3]; decide), if_neg (show ¬ ((⟨a1, a2, a3, a4, a5, a6, a7, a8⟩ :: as : List AttS).any fun x => !(x.alike ⟨a1, a2, a3, a4, a5, a6, a7, a8⟩)) = true by rw [h2]; decide), Int.toNat_natCast]
    simp (maxSteps := 1000000) (implicitDefEqProofs := false) only [AttS.v, AttS.zero, go_sem, ↓reduceIte]
    refine ⟨N + 1, ?_⟩
    refine loop32_1 (G0 := G) (as := ⟨a1, a2, a3, a4, a5, a6, a7, a8⟩ :: as) (a := (bareA ⟨a1, a2, a3, a4, a5, a6, a7, a8⟩).v) hN (by omega) (by simp; omega) rfl (fun ts k x G2 hrow => ?_) N 1 .nils G (by omega) (by omega) (Row.nil (Ext.refl G)) (Nat.zero_le _)
    obtain ⟨x1, x2⟩ := hrow.one
    have x3 := hrow.lenI
    have xn : x.same .nils = true := (Row.nil (z := (.agg [.int .i64 0, .arr .u8 32 [0, 0, 0, 0, 0, 0, 0, 0, 0, 0, 0, 0, 0, 0, 0, 0, 0, 0, 0, 0, 0, 0, 0, 0, 0, 0, 0, 0, 0, 0, 0, 0]])) (sz := 33) (Ext.refl G)).like hrow
    rw [List.length_map, List.length_take] at x3
    unfold V.isAgg at x2
    unfold V.lenI at x3
    by_cases hlt : ((firstsA n (⟨a1, a2, a3, a4, a5, a6, a7, a8⟩ :: as)).length : Int) < (q : Int)
    · have c5 : ((min q (firstsA n (⟨a1, a2, a3, a4, a5, a6, a7, a8⟩ :: as)).length : Nat) : Int) < (q : Int) := by omega
      simp (maxSteps := 1000000) (implicitDefEqProofs := false) only [x1, x2, x3, xn, c5, AttS.v, AttS.zero, bareA, zero32, go_sem, ↓reduceIte]
      exact bad _ _ hrow.1 (by rw [hmk, if_pos hlt])
    · have c5 : ¬ ((min q (firstsA n (⟨a1, a2, a3, a4, a5, a6, a7, a8⟩ :: as)).length : Nat) : Int) < (q : Int) := by omega
      simp (maxSteps := 1000000) (implicitDefEqProofs := false) only [x1, x2, x3, xn, c5, AttS.v, AttS.zero, bareA, zero32, go_sem, ↓reduceIte]
      rw [hmk, if_neg hlt] at h
      refine ⟨_, _, low_cert hrow, ?_⟩
      have h' := h
      unfold CertS.v at h'
      simp only [List.map_map] at h'
      exact h'
end Go.Proofs.YtjbglbhcbenhpaaDoor.Sha
