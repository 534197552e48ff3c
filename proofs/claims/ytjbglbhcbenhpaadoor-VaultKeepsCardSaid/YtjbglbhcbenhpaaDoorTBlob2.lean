/- Laws over plain values, and what functions of the program hand back; no conditions. -/
import Derived.Test.YtjbglbhcbenhpaaDoorTBlob1
namespace Go.Proofs.YtjbglbhcbenhpaaDoor.Sha
open Go Go.Abs Go.Abs.Sha
set_option linter.unusedSimpArgs false
set_option linter.unusedVariables false
set_option maxRecDepth 100000
def pf49 : PF :=
  PF.mk 2 11 48 ((PC.reg [nn (.v 4) (.mv true (.c (.v (.int .i64 0)))), nn (.v 5) (.alloc (.agg [.int .i64 0, .int .i64 0, .int .i64 0, .arr .u8 32 [0,
    0, 0, 0, 0, 0, 0, 0, 0, 0, 0, 0, 0, 0, 0, 0, 0, 0, 0, 0, 0, 0, 0, 0, 0, 0, 0, 0, 0, 0, 0, 0]])), nn (.v 6) (.mv true (.c (.v (.int .i64 0))))]).seq
    ((PC.reg [mm 11 1, nn (.t 12) (.call 90 [.t 11]), ma 7 12]).seq ((PC.reg [mm 13 7, nn (.t 14) (.call 91 [.t 13, .c (.v (.int .i64 1099511627776))]),
    ma 8 14]).seq ((PC.reg [mm 15 7, nn (.t 16) (.call 91 [.t 15, .c (.v (.int .i64 1099511627776))]), mm 17 7, nn (.t 18) (.call 91 [.t 17, .c (.v (.int
    .i64 3))]), mm 19 7, nn (.t 20) (.call 91 [.t 19, .c (.v (.int .i64 1099511627776))]), mm 21 7, nn (.t 22) (.call 92 [.t 21]), nn (.t 23) (.build
    (.agg [.int .i64 0, .int .i64 0, .int .i64 0, .arr .u8 32 [0, 0, 0, 0, 0, 0, 0, 0, 0, 0, 0, 0, 0, 0, 0, 0, 0, 0, 0, 0, 0, 0, 0, 0, 0, 0, 0, 0, 0, 0,
    0, 0]]) [(0, .t 16), (1, .t 18), (2, .t 20), (3, .t 22)]), nn (.v 9) (.alloc (.agg [.int .i64 0, .int .i64 0, .int .i64 0, .arr .u8 32 [0, 0, 0, 0,
    0, 0, 0, 0, 0, 0, 0, 0, 0, 0, 0, 0, 0, 0, 0, 0, 0, 0, 0, 0, 0, 0, 0, 0, 0, 0, 0, 0]])), nn .no (.store 35 (.v 9) (.t 23))]).seq ((PC.reg [mm 24 7, nn
    (.t 25) (.call 92 [.t 24]), nn (.v 10) (.alloc (.arr .u8 32 [0, 0, 0, 0, 0, 0, 0, 0, 0, 0, 0, 0, 0, 0, 0, 0, 0, 0, 0, 0, 0, 0, 0, 0, 0, 0, 0, 0, 0,
    0, 0, 0])), nn .no (.store 32 (.v 10) (.t 25))]).seq ((PC.block 0 (((PC.reg [mm 27 7, nn (.t 28) (.call 93 [.t 27]), nn (.t 29) (.un .not (.t 28)),
    nn (.t 26) (.mv true (.t 29))]).seq (PC.cond (.t 26) PC.skip ((PC.reg [mm 30 8, nn (.t 31) (.bin .eql (.t 30) (.c (.v (.int .i64 0)))), nn (.t 26)
    (.mv true (.t 31))]).seq (PC.cond (.t 26) PC.skip (PC.reg [nn (.t 32) (.load 35 true (.v 9)), nn (.t 33) (.call 43 [.t 32]), nn (.t 34) (.bin .neq
    (.t 33) (.c (.v (.int .i64 0)))), nn (.t 26) (.mv true (.t 34))]))))).seq (PC.cond (.t 26) ((PC.reg [nn (.t 35) (.build (.agg [.int .i64 0, .int .i64
    0, .int .i64 0, .arr .u8 32 [0, 0, 0, 0, 0, 0, 0, 0, 0, 0, 0, 0, 0, 0, 0, 0, 0, 0, 0, 0, 0, 0, 0, 0, 0, 0, 0, 0, 0, 0, 0, 0]]) []), nn (.v 4) (.mv
    true (.c (.v (.int .i64 0)))), nn .no (.store 35 (.v 5) (.t 35)), nn (.v 6) (.mv true (.c (.v (.int .i64 2))))]).seq PC.ret) ((PC.regD 0 [mm 37 0, nn
    (.t 38) (.load 32 true (.v 10)), mm 39 8, nn (.t 40) (.load 35 true (.v 9)), nn (.t 41) (.call 86 [.t 39, .t 40]), nn (.t 42) (.buildS none 1 .nils 1
    [(0, .t 41)]), nn (.t 43) (.call 68 [.t 37, .c (.v (.int .u8 3)), .t 38, .t 42]), nn (.t 44) (.un .not (.t 43)), nn (.t 36) (.mv true (.t 44))]
    []).seq (PC.cond (.t 36) ((PC.reg [nn (.t 45) (.build (.agg [.int .i64 0, .int .i64 0, .int .i64 0, .arr .u8 32 [0, 0, 0, 0, 0, 0, 0, 0, 0, 0, 0, 0,
    0, 0, 0, 0, 0, 0, 0, 0, 0, 0, 0, 0, 0, 0, 0, 0, 0, 0, 0, 0]]) []), nn (.v 4) (.mv true (.c (.v (.int .i64 0)))), nn .no (.store 35 (.v 5) (.t 45)),
    nn (.v 6) (.mv true (.c (.v (.int .i64 7))))]).seq PC.ret) PC.skip))))).seq ((PC.regD 0 [mm 46 8, nn (.t 47) (.load 35 true (.v 9)), ma 4 46, nn .no
    (.store 35 (.v 5) (.t 47)), nn (.v 6) (.mv true (.c (.v (.int .i64 0))))] []).seq PC.ret))))))) [(.v 4, none), (.v 5, some (35, true)), (.v 6, none)]
def pf22 : PF :=
  PF.mk 2 10 84 ((PC.reg [nn (.v 4) (.mv true (.c (.v (.int .i64 0)))), nn (.v 5) (.alloc (.agg [.int .i64 0, .int .i64 0, .int .i64 0, .arr .u8 32 [0,
    0, 0, 0, 0, 0, 0, 0, 0, 0, 0, 0, 0, 0, 0, 0, 0, 0, 0, 0, 0, 0, 0, 0, 0, 0, 0, 0, 0, 0, 0, 0]])), nn (.v 6) (.mv true (.c (.v (.int .i64 0))))]).seq
    ((PC.reg [nn (.t 10) (.build (.agg [.int .i64 0, .int .i64 0, .int .i64 0, .arr .u8 32 [0, 0, 0, 0, 0, 0, 0, 0, 0, 0, 0, 0, 0, 0, 0, 0, 0, 0, 0, 0,
    0, 0, 0, 0, 0, 0, 0, 0, 0, 0, 0, 0]]) []), nn (.v 7) (.alloc (.agg [.int .i64 0, .int .i64 0, .int .i64 0, .arr .u8 32 [0, 0, 0, 0, 0, 0, 0, 0, 0, 0,
    0, 0, 0, 0, 0, 0, 0, 0, 0, 0, 0, 0, 0, 0, 0, 0, 0, 0, 0, 0, 0, 0]])), nn .no (.store 35 (.v 7) (.t 10))]).seq ((PC.reg [nn (.v 8) (.mv true (.c (.v
    (.int .i64 0))))]).seq ((PC.reg [mm 11 1, nn (.t 12) (.build (.agg [.nils, .int .i64 0, .bool false]) [(0, .t 11)]), nn (.v 9) (.alloc (.agg [.nils,
    .int .i64 0, .bool false])), nn .no (.store 3 (.v 9) (.t 12))]).seq ((PC.reg [nn (.t 14) (.load 3 true (.v 9)), nn (.t 15) (.call 51 [.t 14, .c (.v
    (.int .i64 1099511627776))]), nn (.t 13) (.mv false (.t 15)), nn (.t 16) (.ext (.t 13) 0), nn (.t 17) (.ext (.t 13) 1), nn .no (.store 3 (.v 9) (.t
    16)), ma 8 17]).seq ((PC.reg [nn (.t 19) (.load 3 true (.v 9)), nn (.t 20) (.call 51 [.t 19, .c (.v (.int .i64 1099511627776))]), nn (.t 18) (.mv
    false (.t 20)), nn (.t 21) (.ext (.t 18) 0), nn (.t 22) (.ext (.t 18) 1), nn .no (.store 3 (.v 9) (.t 21)), nn (.t 23) (.fadr 0 0 (.v 7)), nn .no
    (.store 1 (.t 23) (.t 22))]).seq ((PC.reg [nn (.t 25) (.load 3 true (.v 9)), nn (.t 26) (.call 51 [.t 25, .c (.v (.int .i64 3))]), nn (.t 24) (.mv
    false (.t 26)), nn (.t 27) (.ext (.t 24) 0), nn (.t 28) (.ext (.t 24) 1), nn .no (.store 3 (.v 9) (.t 27)), nn (.t 29) (.fadr 1 1 (.v 7)), nn .no
    (.store 1 (.t 29) (.t 28))]).seq ((PC.reg [nn (.t 31) (.load 3 true (.v 9)), nn (.t 32) (.call 51 [.t 31, .c (.v (.int .i64 1099511627776))]), nn (.t
    30) (.mv false (.t 32)), nn (.t 33) (.ext (.t 30) 0), nn (.t 34) (.ext (.t 30) 1), nn .no (.store 3 (.v 9) (.t 33)), nn (.t 35) (.fadr 2 2 (.v 7)),
    nn .no (.store 1 (.t 35) (.t 34))]).seq ((PC.reg [nn (.t 37) (.load 3 true (.v 9)), nn (.t 38) (.call 52 [.t 37]), nn (.t 36) (.mv false (.t 38)), nn
    (.t 39) (.ext (.t 36) 0), nn (.t 40) (.ext (.t 36) 1), nn .no (.store 3 (.v 9) (.t 39)), nn (.t 41) (.fadr 3 3 (.v 7)), nn .no (.store 32 (.t 41) (.t
    40))]).seq ((PC.reg [nn (.t 43) (.load 3 true (.v 9)), nn (.t 44) (.call 52 [.t 43]), nn (.t 42) (.mv false (.t 44)), nn (.t 45) (.ext (.t 42) 0), nn
    (.t 46) (.ext (.t 42) 1), nn .no (.store 3 (.v 9) (.t 45))]).seq (((PC.reg [nn (.t 47) (.fadr 2 2 (.v 9)), nn (.t 48) (.load 1 false (.t 47)), nn (.t
    49) (.mv false (.t 48)), ⟨.t 50, .fadr 1 1 (.v 9), some (.t 49, false)⟩, ⟨.t 51, .load 1 false (.t 50), some (.t 49, false)⟩, gm 52 1 49 false, ⟨.t
    53, .len (.t 52), some (.t 49, false)⟩, ⟨.t 54, .bin .neq (.t 51) (.t 53), some (.t 49, false)⟩, nn (.t 55) (.pick (.t 49) (.c (.v (.bool true))) (.t
    54)), nn (.t 56) (.mv false (.t 55)), gm 57 8 56 false, ⟨.t 58, .bin .lss (.t 57) (.c (.v (.int .i64 1))), some (.t 56, false)⟩, nn (.t 59) (.pick
    (.t 56) (.c (.v (.bool true))) (.t 58)), nn (.t 60) (.mv false (.t 59)), ⟨.t 61, .load 35 true (.v 7), some (.t 60, false)⟩, ⟨.t 62, .call 16 [.t
    61], some (.t 60, false)⟩, ⟨.t 63, .un .not (.t 62), some (.t 60, false)⟩, nn (.t 64) (.pick (.t 60) (.c (.v (.bool true))) (.t 63))]).seq (PC.cond
    (.t 64) ((PC.reg [nn (.t 65) (.build (.agg [.int .i64 0, .int .i64 0, .int .i64 0, .arr .u8 32 [0, 0, 0, 0, 0, 0, 0, 0, 0, 0, 0, 0, 0, 0, 0, 0, 0, 0,
    0, 0, 0, 0, 0, 0, 0, 0, 0, 0, 0, 0, 0, 0]]) []), nn (.v 4) (.mv true (.c (.v (.int .i64 0)))), nn .no (.store 35 (.v 5) (.t 65)), nn (.v 6) (.mv true
    (.c (.v (.int .i64 2))))]).seq PC.ret) PC.skip)).seq (((PC.reg [mm 66 0, nn (.t 67) (.bin .lss (.t 66) (.c (.v (.int .i64 1)))), nn (.t 68) (.mv
    false (.t 67)), gm 69 0 68 false, ⟨.t 70, .bin .gtr (.t 69) (.c (.v (.int .i64 21))), some (.t 68, false)⟩, nn (.t 71) (.pick (.t 68) (.c (.v (.bool
    true))) (.t 70)), nn (.t 72) (.mv false (.t 71)), gm 73 0 72 false, gm 74 8 72 false, ⟨.t 75, .load 35 true (.v 7), some (.t 72, false)⟩, ⟨.t 76,
    .call 53 [.t 73, .t 74, .t 75], some (.t 72, false)⟩, gm 77 1 72 false, ⟨.t 78, .call 41 [.t 76, .t 77], some (.t 72, false)⟩, ⟨.t 79, .un .not (.t
    78), some (.t 72, false)⟩, nn (.t 80) (.pick (.t 72) (.c (.v (.bool true))) (.t 79))]).seq (PC.cond (.t 80) ((PC.reg [nn (.t 81) (.build (.agg [.int
    .i64 0, .int .i64 0, .int .i64 0, .arr .u8 32 [0, 0, 0, 0, 0, 0, 0, 0, 0, 0, 0, 0, 0, 0, 0, 0, 0, 0, 0, 0, 0, 0, 0, 0, 0, 0, 0, 0, 0, 0, 0, 0]]) []),
    nn (.v 4) (.mv true (.c (.v (.int .i64 0)))), nn .no (.store 35 (.v 5) (.t 81)), nn (.v 6) (.mv true (.c (.v (.int .i64 7))))]).seq PC.ret)
    PC.skip)).seq ((PC.regD 0 [mm 82 8, nn (.t 83) (.load 35 true (.v 7)), ma 4 82, nn .no (.store 35 (.v 5) (.t 83)), nn (.v 6) (.mv true (.c (.v (.int
    .i64 0))))] []).seq PC.ret))))))))))))) [(.v 4, none), (.v 5, some (35, true)), (.v 6, none)]
attribute [local irreducible] W Wops WopsD WL Wop WopD
variable {E : Env} {C : Abs.Spec} {l : List (Nat × Spec1)} {G : List (Nat × V)} {Q : R → List (Nat × V) → Prop}
set_option maxHeartbeats 1000000
def getR (p : Int × SealS × Int) : R := .tup [.int .i64 p.1, p.2.1.v, .int .i64 p.2.2]
def SBg (kt : List Int) : Spec1
  | [.int .i64 i, x], G, Q => ∃ b, (byV x = some b ∧ Byt b ∧ b.length < 100000000000) ∧ ∀ id, Abs.look G id = none → Q (getR (getBlob kt i b)) ((id, Rd.v (rdBlob (b, false)).2.2.2) :: G)
  | _, _, _ => False
theorem SBg_eq {kt i x} : SBg kt [.int .i64 i, x] G Q = (∃ b, (byV x = some b ∧ Byt b ∧ b.length < 100000000000) ∧ ∀ id, Abs.look G id = none → Q (getR (getBlob kt i b)) ((id, Rd.v (rdBlob (b, false)).2.2.2) :: G)) := rfl
def SBh (kt : List Int) : Spec1
  | [.int .i64 i, .sli .u8 b], G, Q => (Byt b ∧ b.length < 100000000000) ∧ Q (getR (getBlob kt i b)) G
  | _, _, _ => False
theorem SBh_eq {kt i b} : SBh kt [.int .i64 i, .sli .u8 b] G Q = ((Byt b ∧ b.length < 100000000000) ∧ Q (getR (getBlob kt i b)) G) := rfl
theorem walk49 {kt b : List Int} {i : Int} (h28 : Abs.look l 90 = some SRd) (h39 : Abs.look l 91 = some SUp) (h40 : Abs.look l 92 = some SHs) (h41 : Abs.look l 93 = some SDn)
    (h23 : Abs.look l 43 = some SBc) (h42 : Abs.look l 86 = some SBt) (h37 : Abs.look l 68 = some (SCh kt)) (hb : Byt b) (hl : b.length < 100000000000)
    (h : ∀ id, Abs.look G id = none → Q (getR (getBlob kt i b)) ((id, Rd.v (rdBlob (b, false)).2.2.2) :: G)) : Wf E (specOf l) pf49 [.int .i64 i, .sli .u8 b] G Q := by
  rcases e0 : rdUpto 1099511627776 (b, false) with ⟨n0, r0, w0⟩
  rcases e1 : rdUpto 1099511627776 (r0, w0) with ⟨n1, r1, w1⟩
  rcases e2 : rdUpto 3 (r1, w1) with ⟨n2, r2, w2⟩
  rcases e3 : rdUpto 1099511627776 (r2, w2) with ⟨n3, r3, w3⟩
  rcases e4 : rdHash (r3, w3) with ⟨n4, r4, w4⟩
  rcases e5 : rdHash (r4, w4) with ⟨n5, r5, w5⟩
  obtain ⟨z01, z02, _, _, ⟨u0, z05⟩, _⟩ := rdUpto_all e0 hb (by omega)
  obtain ⟨z11, z12, _, _, ⟨u1, z15⟩, _⟩ := rdUpto_all e1 z01 (by omega)
  obtain ⟨z21, z22, _, _, ⟨u2, z25⟩, _⟩ := rdUpto_all e2 z11 (by omega)
  obtain ⟨z31, z32, _, _, ⟨u3, z35⟩, _⟩ := rdUpto_all e3 z21 (by omega)
  obtain ⟨z41, z42, _, ⟨u4, z45⟩, _⟩ := rdHash_all e4 z31
  obtain ⟨z51, z52, _, ⟨u5, z55⟩, _⟩ := rdHash_all e5 z41
  have eB : rdBlob (b, false) = (n0, ⟨n1, n2, n3, n4⟩, n5, r5, w5) := by simp only [rdBlob, e0, e1, e2, e3, e4, e5]
  have ok := rdBlob_all eB hb
  have hw := ok.wf
  have hta := ok.tg
  have hve := ok.vr
  simp (maxSteps := 1000000) (implicitDefEqProofs := false) only [pf49, h28, SRd_eq, go_sem, ↓reduceIte, decide_eq_true_eq, decide_eq_false_iff_not, ge_iff_le, gt_iff_lt, Int.not_le, Int.not_lt, Bool.not_eq_true', Bool.not_eq_false', Bool.and_eq_true, Bool.and_eq_false_iff]
  refine ⟨b, ⟨rfl, by omega⟩, fun id hid => ?_⟩
  replace h := h id hid
  unfold getBlob at h
  rw [eB] at h
  simp only at h
  simp (maxSteps := 1000000) (implicitDefEqProofs := false) only [h39, SUp_eq, h40, SHs_eq, h41, SDn_eq, h23, SBc_eq, go_sem, ↓reduceIte, decide_eq_true_eq, decide_eq_false_iff_not, ge_iff_le, gt_iff_lt, Int.not_le, Int.not_lt, Bool.not_eq_true', Bool.not_eq_false', Bool.and_eq_true, Bool.and_eq_false_iff]
  refine ⟨b, false, n0, r0, w0, ⟨rfl, hb, by omega, e0⟩, r0, w0, n1, r1, w1, ⟨rfl, z01, by omega, e1⟩, r1, w1, n2, r2, w2, ⟨rfl, z11, by omega, e2⟩, r2, w2, n3, r3, w3, ⟨rfl, z21, by omega, e3⟩, r3, w3, n4, r4, w4, ⟨rfl, z31, by omega, e4⟩, r4, w4, n5, r5, w5, ⟨rfl, z41, by omega, e5⟩, r5, w5, rfl, ?_⟩
  cases w5 with
  | true =>
    rw [if_pos (.inl rfl)] at h
    simp (maxSteps := 1000000) (implicitDefEqProofs := false) only [go_sem, ↓reduceIte, decide_eq_true_eq, decide_eq_false_iff_not, ge_iff_le, gt_iff_lt, Int.not_le, Int.not_lt, Bool.not_eq_true', Bool.not_eq_false', Bool.and_eq_true, Bool.and_eq_false_iff]
    exact h
  | false =>
    by_cases hr : r5.length = 0
    · have hr5 : r5 = [] := List.eq_nil_of_length_eq_zero hr
      subst hr5
      by_cases hn : n0 = 0
      · rw [if_pos (.inr (.inr (.inl hn)))] at h
        simp (maxSteps := 1000000) (implicitDefEqProofs := false) only [hn, go_sem, ↓reduceIte, decide_eq_true_eq, decide_eq_false_iff_not, ge_iff_le, gt_iff_lt, Int.not_le, Int.not_lt, Bool.not_eq_true', Bool.not_eq_false', Bool.and_eq_true, Bool.and_eq_false_iff]
        exact h
      · have hn' : (n0 = 0) = False := eq_false hn
        by_cases hm : (⟨n1, n2, n3, n4⟩ : SealS).May
        · have hmay : (⟨n1, n2, n3, n4⟩ : SealS).may = true := decide_eq_true hm
          obtain ⟨s1, s2⟩ := SealS.said_ok hw hm hve
          rw [if_neg (by rintro (h1 | h1 | h1 | h1); exact absurd h1 (by decide); exact h1 rfl; exact hn h1; exact h1 hm)] at h
          simp (maxSteps := 1000000) (implicitDefEqProofs := false) only [hn', hmay, h42, SBt_eq, h37, SCh_eq, go_sem, ↓reduceIte, decide_eq_true_eq, decide_eq_false_iff_not, ge_iff_le, gt_iff_lt, Int.not_le, Int.not_lt, Bool.not_eq_true', Bool.not_eq_false', Bool.and_eq_true, Bool.and_eq_false_iff]
          refine ⟨hw, ⟨hw, hm, by omega, by omega⟩, (⟨n1, n2, n3, n4⟩ : SealS).said n0, _, ⟨hta, rowV_sle _, by simp, by simp [catL, byV], s1, by omega⟩, ?_⟩
          refine ⟨fun c => ?_, fun c => ?_⟩
          · rw [if_pos c] at h; exact h
          · rw [if_neg (by rintro (h1 | h1); exact h1 c.1; exact h1 c.2)] at h; exact h
        · have hmay : (⟨n1, n2, n3, n4⟩ : SealS).may = false := decide_eq_false hm
          rw [if_pos (.inr (.inr (.inr hm)))] at h
          simp (maxSteps := 1000000) (implicitDefEqProofs := false) only [hn', hmay, go_sem, ↓reduceIte, decide_eq_true_eq, decide_eq_false_iff_not, ge_iff_le, gt_iff_lt, Int.not_le, Int.not_lt, Bool.not_eq_true', Bool.not_eq_false', Bool.and_eq_true, Bool.and_eq_false_iff]
          exact ⟨hw, h⟩
    · have hr' : ((r5.length : Int) = 0) = False := by simp; intro e; exact hr (by simp [e])
      have hr2 : (r5.length = 0) = False := eq_false hr
      rw [if_pos (.inr (.inl (fun e => hr (by rw [e]; rfl))))] at h
      simp (maxSteps := 1000000) (implicitDefEqProofs := false) only [hr', hr2, go_sem, ↓reduceIte, decide_eq_true_eq, decide_eq_false_iff_not, ge_iff_le, gt_iff_lt, Int.not_le, Int.not_lt, Bool.not_eq_true', Bool.not_eq_false', Bool.and_eq_true, Bool.and_eq_false_iff]
      exact h
theorem walk22 {kt b : List Int} {i : Int} (h43 : Abs.look l 51 = some SRu) (h44 : Abs.look l 52 = some SRh) (h22 : Abs.look l 16 = some SBm)
    (h27 : Abs.look l 53 = some (SBr kt)) (h26 : Abs.look l 41 = some SSm) (hb : Byt b) (hl : b.length < 100000000000)
    (h : Q (getR (getBlob kt i b)) G) : Wf E (specOf l) pf22 [.int .i64 i, .sli .u8 b] G Q := by
  rcases e0 : rdUpto 1099511627776 (b, false) with ⟨n0, r0, w0⟩
  rcases e1 : rdUpto 1099511627776 (r0, w0) with ⟨n1, r1, w1⟩
  rcases e2 : rdUpto 3 (r1, w1) with ⟨n2, r2, w2⟩
  rcases e3 : rdUpto 1099511627776 (r2, w2) with ⟨n3, r3, w3⟩
  rcases e4 : rdHash (r3, w3) with ⟨n4, r4, w4⟩
  rcases e5 : rdHash (r4, w4) with ⟨n5, r5, w5⟩
  obtain ⟨z01, z02, _, _, ⟨u0, z05⟩, _⟩ := rdUpto_all e0 hb (by omega)
  obtain ⟨z11, z12, _, _, ⟨u1, z15⟩, _⟩ := rdUpto_all e1 z01 (by omega)
  obtain ⟨z21, z22, _, _, ⟨u2, z25⟩, _⟩ := rdUpto_all e2 z11 (by omega)
  obtain ⟨z31, z32, _, _, ⟨u3, z35⟩, _⟩ := rdUpto_all e3 z21 (by omega)
  obtain ⟨z41, z42, _, ⟨u4, z45⟩, _⟩ := rdHash_all e4 z31
  obtain ⟨z51, z52, _, ⟨u5, z55⟩, _⟩ := rdHash_all e5 z41
  have eB : rdBlob (b, false) = (n0, ⟨n1, n2, n3, n4⟩, n5, r5, w5) := by simp only [rdBlob, e0, e1, e2, e3, e4, e5]
  have ok := rdBlob_all eB hb
  have hw := ok.wf
  have hta := ok.tg
  have hve := ok.vr
  unfold getBlob at h
  rw [eB] at h
  simp only at h
  have l0 : ((b.length : Int) - (r0.length : Int)) = (u0.length : Int) := by rw [z05, List.length_append]; omega
  have l1 : ((b.length : Int) - (r1.length : Int)) = ((u0 ++ u1).length : Int) := by rw [z05, z15]; simp only [List.length_append]; omega
  have l2 : ((b.length : Int) - (r2.length : Int)) = ((u0 ++ u1 ++ u2).length : Int) := by rw [z05, z15, z25]; simp only [List.length_append]; omega
  have l3 : ((b.length : Int) - (r3.length : Int)) = ((u0 ++ u1 ++ u2 ++ u3).length : Int) := by rw [z05, z15, z25, z35]; simp only [List.length_append]; omega
  have l4 : ((b.length : Int) - (r4.length : Int)) = ((u0 ++ u1 ++ u2 ++ u3 ++ u4).length : Int) := by rw [z05, z15, z25, z35, z45]; simp only [List.length_append]; omega
  have b1 : b = u0 ++ r0 := z05
  have b2 : b = u0 ++ u1 ++ r1 := by rw [List.append_assoc, ← z15]; exact z05
  have b3 : b = u0 ++ u1 ++ u2 ++ r2 := by rw [List.append_assoc, ← z25]; exact b2
  have b4 : b = u0 ++ u1 ++ u2 ++ u3 ++ r3 := by rw [List.append_assoc, ← z35]; exact b3
  have b5 : b = u0 ++ u1 ++ u2 ++ u3 ++ u4 ++ r4 := by rw [List.append_assoc, ← z45]; exact b4
  simp (maxSteps := 1000000) (implicitDefEqProofs := false) only [pf22, h43, SRu_eq, h44, SRh_eq, go_sem, ↓reduceIte, decide_eq_true_eq, decide_eq_false_iff_not, ge_iff_le, gt_iff_lt, Int.not_le, Int.not_lt, Bool.not_eq_true', Bool.not_eq_false', Bool.and_eq_true, Bool.and_eq_false_iff]
  refine ⟨[], b, n0, r0, w0, ⟨rfl, rfl, hb, by omega, e0⟩, ?_⟩
  refine ⟨u0, r0, n1, r1, w1, ⟨b1, l0, hb, by omega, e1⟩, ?_⟩
  refine ⟨u0 ++ u1, r1, n2, r2, w2, ⟨b2, by first | exact l1 | simpa using l1, hb, by omega, e2⟩, ?_⟩
  refine ⟨u0 ++ u1 ++ u2, r2, n3, r3, w3, ⟨b3, by first | exact l2 | simpa using l2, hb, by omega, e3⟩, ?_⟩
  refine ⟨u0 ++ u1 ++ u2 ++ u3, r3, n4, r4, w4, ⟨b4, by first | exact l3 | simpa using l3, hb, by omega, e4⟩, ?_⟩
  refine ⟨u0 ++ u1 ++ u2 ++ u3 ++ u4, r4, n5, r5, w5, ⟨b5, by first | exact l4 | simpa using l4, hb, by omega, e5⟩, ?_⟩
  cases w5 with
  | true =>
    rw [if_pos (.inl rfl)] at h
    simp (maxSteps := 1000000) (implicitDefEqProofs := false) only [go_sem, ↓reduceIte, decide_eq_true_eq, decide_eq_false_iff_not, ge_iff_le, gt_iff_lt, Int.not_le, Int.not_lt, Bool.not_eq_true', Bool.not_eq_false', Bool.and_eq_true, Bool.and_eq_false_iff]
    exact h
  | false =>
    by_cases hr : r5.length = 0
    · have hr5 : r5 = [] := List.eq_nil_of_length_eq_zero hr
      subst hr5
      by_cases hn : n0 = 0
      · rw [if_pos (.inr (.inr (.inl hn)))] at h
        have hn1 : n0 < 1 := by omega
        have hn2 : (1 ≤ n0) = False := eq_false (by omega)
        simp (maxSteps := 1000000) (implicitDefEqProofs := false) only [hn1, hn2, List.length_nil, Int.sub_zero, go_sem, ↓reduceIte, decide_eq_true_eq, decide_eq_false_iff_not, ge_iff_le, gt_iff_lt, Int.not_le, Int.not_lt, Bool.not_eq_true', Bool.not_eq_false', Bool.and_eq_true, Bool.and_eq_false_iff]
        exact h
      · have hn' : ¬ n0 < 1 := by omega
        have hn2 : (1 ≤ n0) = True := eq_true (by omega)
        by_cases hm : (⟨n1, n2, n3, n4⟩ : SealS).May
        · have hmay : (⟨n1, n2, n3, n4⟩ : SealS).may = true := decide_eq_true hm
          obtain ⟨s1, s2⟩ := SealS.said_ok hw hm hve
          have hbb : b = (⟨n1, n2, n3, n4⟩ : SealS).said n0 ++ n5 := by have := (ok.right rfl).2; simpa using this
          have tl := tagH_len kt i 3 ((⟨n1, n2, n3, n4⟩ : SealS).said n0)
          rw [if_neg (by rintro (h1 | h1 | h1 | h1); exact absurd h1 (by decide); exact h1 rfl; exact hn h1; exact h1 hm)] at h
          by_cases hi : 1 ≤ i ∧ i ≤ 21
          · have hi1 : ¬ i < 1 := by omega
            have hi2 : ¬ 21 < i := by omega
            have bl : ((⟨n1, n2, n3, n4⟩ : SealS).blob kt i n0).length < 1000000000000 := by
              simp only [SealS.blob, List.length_append]; omega
            simp (maxSteps := 1000000) (implicitDefEqProofs := false) only [hn', hn2, h22, SBm_eq, hmay, hi1, hi2, h27, SBr_eq, h26, SSm_eq, List.length_nil, Int.sub_zero, go_sem, ↓reduceIte, decide_eq_true_eq, decide_eq_false_iff_not, ge_iff_le, gt_iff_lt, Int.not_le, Int.not_lt, Bool.not_eq_true', Bool.not_eq_false', Bool.and_eq_true, Bool.and_eq_false_iff]
            refine ⟨hw, ⟨hw, hm, by omega, by omega⟩, _, b, ⟨byV_u8 _, byV_u8 _, bl, by omega⟩, ?_⟩
            by_cases ht : n5 = tagH kt i 3 ((⟨n1, n2, n3, n4⟩ : SealS).said n0)
            · have hs : (⟨n1, n2, n3, n4⟩ : SealS).blob kt i n0 = b := by unfold SealS.blob; rw [← ht, ← hbb]
              rw [if_neg (by rintro (h1 | h1); exact h1 hi; exact h1 ht)] at h
              simp (maxSteps := 1000000) (implicitDefEqProofs := false) only [hs, go_sem, ↓reduceIte, decide_eq_true_eq, decide_eq_false_iff_not, ge_iff_le, gt_iff_lt, Int.not_le, Int.not_lt, Bool.not_eq_true', Bool.not_eq_false', Bool.and_eq_true, Bool.and_eq_false_iff]
              exact h
            · have hs : ((⟨n1, n2, n3, n4⟩ : SealS).blob kt i n0 = b) = False := by
                apply eq_false
                intro e
                unfold SealS.blob at e
                rw [hbb] at e
                exact ht (List.append_cancel_left e).symm
              rw [if_pos (.inr ht)] at h
              simp (maxSteps := 1000000) (implicitDefEqProofs := false) only [hs, go_sem, ↓reduceIte, decide_eq_true_eq, decide_eq_false_iff_not, ge_iff_le, gt_iff_lt, Int.not_le, Int.not_lt, Bool.not_eq_true', Bool.not_eq_false', Bool.and_eq_true, Bool.and_eq_false_iff]
              exact h
          · rw [if_pos (.inl hi)] at h
            simp (maxSteps := 1000000) (implicitDefEqProofs := false) only [hn', hn2, h22, SBm_eq, hmay, List.length_nil, Int.sub_zero, go_sem, ↓reduceIte, decide_eq_true_eq, decide_eq_false_iff_not, ge_iff_le, gt_iff_lt, Int.not_le, Int.not_lt, Bool.not_eq_true', Bool.not_eq_false', Bool.and_eq_true, Bool.and_eq_false_iff]
            refine ⟨hw, ?_⟩
            repeat' first | (intro _) | constructor
            all_goals first
              | exact h
              | (exfalso; omega)
        · have hmay : (⟨n1, n2, n3, n4⟩ : SealS).may = false := decide_eq_false hm
          rw [if_pos (.inr (.inr (.inr hm)))] at h
          simp (maxSteps := 1000000) (implicitDefEqProofs := false) only [hn', hn2, h22, SBm_eq, hmay, List.length_nil, Int.sub_zero, go_sem, ↓reduceIte, decide_eq_true_eq, decide_eq_false_iff_not, ge_iff_le, gt_iff_lt, Int.not_le, Int.not_lt, Bool.not_eq_true', Bool.not_eq_false', Bool.and_eq_true, Bool.and_eq_false_iff]
          exact ⟨hw, h⟩
    · have hr' : ((b.length : Int) - (r5.length : Int) = (b.length : Int)) = False := by apply eq_false; omega
      rw [if_pos (.inr (.inl (fun e => hr (by rw [e]; rfl))))] at h
      simp (maxSteps := 1000000) (implicitDefEqProofs := false) only [hr', go_sem, ↓reduceIte, decide_eq_true_eq, decide_eq_false_iff_not, ge_iff_le, gt_iff_lt, Int.not_le, Int.not_lt, Bool.not_eq_true', Bool.not_eq_false', Bool.and_eq_true, Bool.and_eq_false_iff]
      exact h
end Go.Proofs.YtjbglbhcbenhpaaDoor.Sha
