/- Laws over plain values, and what functions of the program hand back; no conditions. -/
import Derived.Test.YtpedaeaikbmbnaaDoorAttR
import Derived.Test.YtpedaeaikbmbnaaDoorAtt3
namespace Go.Proofs.YtpedaeaikbmbnaaDoor.Sha
open Go Go.Abs Go.Abs.Sha
set_option linter.unusedSimpArgs false
set_option linter.unusedVariables false
set_option maxRecDepth 100000
def pf7 : PF :=
  PF.mk 1 9 52 ((PC.reg [⟨.v 2, .mv true (.c (.v (.bool false))), none⟩]).seq (((PC.reg [⟨.t 9, .mv false (.v 0), none⟩, ⟨.t 10, .len (.t 9), none⟩, ⟨.t
    11, .bin .gtr (.t 10) (.c (.v (.int .i64 500))), none⟩]).seq (PC.cond (.t 11) ((PC.reg [⟨.t 12, .call 16 [], none⟩, ⟨.v 2, .mv true (.t 12),
    none⟩]).seq PC.ret) PC.skip)).seq ((PC.reg [⟨.t 13, .mv false (.v 0), none⟩, ⟨.t 14, .call 28 [.t 13], none⟩, ⟨.v 3, .mv true (.t 14), none⟩]).seq
    ((PC.reg [⟨.t 16, .mv false (.v 3), none⟩, ⟨.t 17, .call 29 [.t 16], none⟩, ⟨.t 15, .mv false (.t 17), none⟩, ⟨.t 18, .ext (.t 15) 0, none⟩, ⟨.t 19,
    .ext (.t 15) 1, none⟩, ⟨.v 4, .alloc (.agg [.int .i64 0, .int .i64 0, .int .i64 0, .int .i64 0, .arr .u8 32 [0, 0, 0, 0, 0, 0, 0, 0, 0, 0, 0, 0, 0,
    0, 0, 0, 0, 0, 0, 0, 0, 0, 0, 0, 0, 0, 0, 0, 0, 0, 0, 0], .int .i64 0, .arr .u8 32 [0, 0, 0, 0, 0, 0, 0, 0, 0, 0, 0, 0, 0, 0, 0, 0, 0, 0, 0, 0, 0, 0,
    0, 0, 0, 0, 0, 0, 0, 0, 0, 0], .arr .u8 32 [0, 0, 0, 0, 0, 0, 0, 0, 0, 0, 0, 0, 0, 0, 0, 0, 0, 0, 0, 0, 0, 0, 0, 0, 0, 0, 0, 0, 0, 0, 0, 0]]), none⟩,
    ⟨.no, .store 101 (.v 4) (.t 18), none⟩, ⟨.v 5, .mv true (.t 19), none⟩]).seq ((PC.reg [⟨.t 21, .mv false (.v 0), none⟩, ⟨.t 22, .build (.agg [.nils,
    .int .i64 0, .bool false]) [(0, .t 21)], none⟩, ⟨.t 23, .call 30 [.t 22], none⟩, ⟨.t 20, .mv false (.t 23), none⟩, ⟨.t 24, .ext (.t 20) 0, none⟩, ⟨.t
    25, .ext (.t 20) 1, none⟩, ⟨.t 26, .ext (.t 20) 2, none⟩, ⟨.v 6, .alloc (.agg [.nils, .int .i64 0, .bool false]), none⟩, ⟨.v 7, .alloc (.agg [.int
    .i64 0, .int .i64 0, .int .i64 0, .int .i64 0, .arr .u8 32 [0, 0, 0, 0, 0, 0, 0, 0, 0, 0, 0, 0, 0, 0, 0, 0, 0, 0, 0, 0, 0, 0, 0, 0, 0, 0, 0, 0, 0, 0,
    0, 0], .int .i64 0, .arr .u8 32 [0, 0, 0, 0, 0, 0, 0, 0, 0, 0, 0, 0, 0, 0, 0, 0, 0, 0, 0, 0, 0, 0, 0, 0, 0, 0, 0, 0, 0, 0, 0, 0], .arr .u8 32 [0, 0,
    0, 0, 0, 0, 0, 0, 0, 0, 0, 0, 0, 0, 0, 0, 0, 0, 0, 0, 0, 0, 0, 0, 0, 0, 0, 0, 0, 0, 0, 0]]), none⟩, ⟨.no, .store 3 (.v 6) (.t 24), none⟩, ⟨.no,
    .store 101 (.v 7) (.t 25), none⟩, ⟨.v 8, .mv true (.t 26), none⟩]).seq ((PC.regD 0 [⟨.t 27, .mv false (.v 5), none⟩, ⟨.t 28, .mv false (.v 8), none⟩,
    ⟨.t 29, .binB .eql (.t 27) (.t 28), none⟩, ⟨.t 30, .mv false (.t 29), none⟩, ⟨.t 31, .load 101 true (.v 4), some (.t 30, true)⟩, ⟨.t 32, .load 101
    true (.v 7), some (.t 30, true)⟩, ⟨.t 33, .eqa false (.agg (.cons 0 1 false .int (.cons 1 1 false .int (.cons 2 1 false .int (.cons 3 1 false .int
    (.cons 4 32 true (.arr 32) (.cons 36 1 false .int (.cons 37 32 true (.arr 32) (.cons 69 32 true (.arr 32) .nil))))))))) (.t 31) (.t 32), some (.t 30,
    true)⟩, ⟨.t 34, .pick (.t 30) (.t 33) (.c (.v (.bool false))), none⟩, ⟨.t 35, .mv false (.t 34), none⟩, ⟨.t 36, .mv false (.v 5), some (.t 35,
    true)⟩, ⟨.t 37, .un .not (.t 36), some (.t 35, true)⟩, ⟨.t 38, .mv false (.t 37), some (.t 35, true)⟩, ⟨.t 39, .mv false (.v 3), some (.t 38,
    false)⟩, ⟨.t 40, .call 31 [.t 39], some (.t 38, false)⟩, ⟨.t 41, .mv false (.v 0), some (.t 38, false)⟩, ⟨.t 42, .len (.t 41), some (.t 38, false)⟩,
    ⟨.t 43, .fadr 1 1 (.v 6), some (.t 38, false)⟩, ⟨.t 44, .load 1 false (.t 43), some (.t 38, false)⟩, ⟨.t 45, .bin .sub (.t 42) (.t 44), some (.t 38,
    false)⟩, ⟨.t 46, .bin .eql (.t 40) (.t 45), some (.t 38, false)⟩, ⟨.t 47, .pick (.t 38) (.c (.v (.bool true))) (.t 46), some (.t 35, true)⟩, ⟨.t 48,
    .pick (.t 35) (.t 47) (.c (.v (.bool false))), none⟩, ⟨.t 49, .mv false (.t 48), none⟩, ⟨.t 50, .call 16 [], some (.t 49, true)⟩, ⟨.t 51, .pick (.t
    49) (.t 50) (.c (.v (.bool false))), none⟩, ⟨.v 2, .mv true (.t 51), none⟩] []).seq PC.ret)))))) [(.v 2, none)]
def pf8 : PF :=
  PF.mk 3 12 71 ((PC.reg [⟨.v 3, .box (.v 0), none⟩, ⟨.v 6, .mv true (.c (.v (.bool false))), none⟩]).seq (((PC.reg [⟨.t 12, .mv false (.v 1), none⟩, ⟨.t
    13, .len (.t 12), none⟩, ⟨.t 14, .bin .gtr (.t 13) (.c (.v (.int .i64 200))), none⟩, ⟨.t 15, .mv false (.t 14), none⟩, ⟨.t 16, .mv false (.v 2), some
    (.t 15, false)⟩, ⟨.t 17, .len (.t 16), some (.t 15, false)⟩, ⟨.t 18, .bin .gtr (.t 17) (.c (.v (.int .i64 200))), some (.t 15, false)⟩, ⟨.t 19, .pick
    (.t 15) (.c (.v (.bool true))) (.t 18), none⟩]).seq (PC.cond (.t 19) ((PC.reg [⟨.t 20, .call 16 [], none⟩, ⟨.v 6, .mv true (.t 20), none⟩]).seq
    PC.ret) PC.skip)).seq ((PC.reg [⟨.t 21, .mv false (.v 1), none⟩, ⟨.t 22, .load 101 true (.v 3), none⟩, ⟨.t 23, .call 32 [.t 21, .t 22], none⟩, ⟨.v 7,
    .mv true (.t 23), none⟩]).seq (((PC.reg [⟨.t 24, .load 101 true (.v 3), none⟩, ⟨.t 25, .call 9 [.t 24], none⟩, ⟨.t 26, .un .not (.t 25), none⟩]).seq
    (PC.cond (.t 26) ((PC.reg [⟨.t 27, .mv false (.v 7), none⟩, ⟨.t 28, .mv false (.v 1), none⟩, ⟨.t 29, .call 26 [.t 27, .t 28], none⟩, ⟨.t 30, .mv
    false (.t 29), none⟩, ⟨.t 31, .call 16 [], some (.t 30, true)⟩, ⟨.t 32, .pick (.t 30) (.t 31) (.c (.v (.bool false))), none⟩, ⟨.v 6, .mv true (.t
    32), none⟩]).seq PC.ret) PC.skip)).seq ((PC.reg [⟨.t 33, .load 101 true (.v 3), none⟩, ⟨.t 34, .call 33 [.t 33], none⟩, ⟨.v 8, .mv true (.t 34),
    none⟩]).seq ((PC.reg [⟨.t 35, .buildS (some .u8) 1 (.int .u8 0) 0 [], none⟩, ⟨.t 36, .mv false (.v 8), none⟩, ⟨.t 37, .app (some .u8) 1 1 (.t 35) (.t
    36), none⟩, ⟨.t 38, .mv false (.v 2), none⟩, ⟨.t 39, .app (some .u8) 1 1 (.t 37) (.t 38), none⟩, ⟨.t 40, .call 28 [.t 39], none⟩, ⟨.v 9, .mv true (.t
    40), none⟩]).seq ((PC.reg [⟨.t 42, .mv false (.v 9), none⟩, ⟨.t 43, .call 29 [.t 42], none⟩, ⟨.t 41, .mv false (.t 43), none⟩, ⟨.t 44, .ext (.t 41)
    0, none⟩, ⟨.t 45, .ext (.t 41) 1, none⟩, ⟨.v 10, .alloc (.agg [.int .i64 0, .int .i64 0, .int .i64 0, .int .i64 0, .arr .u8 32 [0, 0, 0, 0, 0, 0, 0,
    0, 0, 0, 0, 0, 0, 0, 0, 0, 0, 0, 0, 0, 0, 0, 0, 0, 0, 0, 0, 0, 0, 0, 0, 0], .int .i64 0, .arr .u8 32 [0, 0, 0, 0, 0, 0, 0, 0, 0, 0, 0, 0, 0, 0, 0, 0,
    0, 0, 0, 0, 0, 0, 0, 0, 0, 0, 0, 0, 0, 0, 0, 0], .arr .u8 32 [0, 0, 0, 0, 0, 0, 0, 0, 0, 0, 0, 0, 0, 0, 0, 0, 0, 0, 0, 0, 0, 0, 0, 0, 0, 0, 0, 0, 0,
    0, 0, 0]]), none⟩, ⟨.no, .store 101 (.v 10) (.t 44), none⟩, ⟨.v 11, .mv true (.t 45), none⟩]).seq ((PC.reg [⟨.t 46, .mv false (.v 7), none⟩, ⟨.t 47,
    .buildS (some .u8) 1 (.int .u8 0) 0 [], none⟩, ⟨.t 48, .mv false (.v 1), none⟩, ⟨.t 49, .app (some .u8) 1 1 (.t 47) (.t 48), none⟩, ⟨.t 50, .mv false
    (.v 8), none⟩, ⟨.t 51, .app (some .u8) 1 1 (.t 49) (.t 50), none⟩, ⟨.t 52, .call 26 [.t 46, .t 51], none⟩, ⟨.t 53, .mv false (.t 52), none⟩, ⟨.t 54,
    .mv false (.v 11), some (.t 53, true)⟩, ⟨.t 55, .pick (.t 53) (.t 54) (.c (.v (.bool false))), none⟩, ⟨.t 56, .mv false (.t 55), none⟩, ⟨.t 57, .load
    101 true (.v 10), some (.t 56, true)⟩, ⟨.t 58, .load 101 true (.v 3), some (.t 56, true)⟩, ⟨.t 59, .eqa false (.agg (.cons 0 1 false .int (.cons 1 1
    false .int (.cons 2 1 false .int (.cons 3 1 false .int (.cons 4 32 true (.arr 32) (.cons 36 1 false .int (.cons 37 32 true (.arr 32) (.cons 69 32
    true (.arr 32) .nil))))))))) (.t 57) (.t 58), some (.t 56, true)⟩, ⟨.t 60, .pick (.t 56) (.t 59) (.c (.v (.bool false))), none⟩, ⟨.t 61, .mv false
    (.t 60), none⟩, ⟨.t 62, .mv false (.v 9), some (.t 61, true)⟩, ⟨.t 63, .call 31 [.t 62], some (.t 61, true)⟩, ⟨.t 64, .mv false (.v 2), some (.t 61,
    true)⟩, ⟨.t 65, .len (.t 64), some (.t 61, true)⟩, ⟨.t 66, .bin .eql (.t 63) (.t 65), some (.t 61, true)⟩, ⟨.t 67, .pick (.t 61) (.t 66) (.c (.v
    (.bool false))), none⟩, ⟨.t 68, .mv false (.t 67), none⟩, ⟨.t 69, .call 16 [], some (.t 68, true)⟩, ⟨.t 70, .pick (.t 68) (.t 69) (.c (.v (.bool
    false))), none⟩, ⟨.v 6, .mv true (.t 70), none⟩]).seq PC.ret)))))))) [(.v 6, none)]
attribute [local irreducible] W Wops WopsD WL Wop WopD
variable {E : Env} {C : Abs.Spec} {l : List (Nat × Spec1)} {G : List (Nat × V)} {Q : R → List (Nat × V) → Prop}
set_option maxHeartbeats 1000000
theorem bytes_ok {a1 a2 a3 a4 a6 : Int} {a5 a7 a8 : List Int} (hw : (⟨a1, a2, a3, a4, a5, a6, a7, a8⟩ : AttS).wf) (hm : (⟨a1, a2, a3, a4, a5, a6, a7, a8⟩ : AttS).May) : Byt (⟨a1, a2, a3, a4, a5, a6, a7, a8⟩ : AttS).bytes ∧ (⟨a1, a2, a3, a4, a5, a6, a7, a8⟩ : AttS).bytes.length ≤ 146 := by
  obtain ⟨s1, s2⟩ := AttS.said_ok hw hm
  obtain ⟨r1, n1⟩ := num_ok (n := a1.toNat) (by have := hm.1; dsimp only at this; omega)
  refine ⟨byt_app (byt_app r1 s1) hw.ta.1, ?_⟩
  have := hw.ta.2
  dsimp only at this
  simp only [AttS.bytes, List.length_append]; omega
theorem walk7 {b : List Int} (h16 : Abs.look l 16 = some SAw) (h28 : Abs.look l 28 = some SRd) (h29 : Abs.look l 29 = some SAr) (h30 : Abs.look l 30 = some SAs) (h31 : Abs.look l 31 = some SLf)
    (hb : Byt b) (h : ∀ G', Q (.v (.bool true)) G') : Wf E (specOf l) pf7 [.sli .u8 b] G Q := by
  by_cases hl : 500 < b.length
  · have hl' : (500 : Int) < b.length := by omega
    simp (maxSteps := 1000000) (implicitDefEqProofs := false) only [pf7, hl', h16, SAw_eq, go_sem, ↓reduceIte, decide_eq_true_eq, decide_eq_false_iff_not, ge_iff_le, gt_iff_lt, Int.not_le, Int.not_lt, Bool.not_eq_true', Bool.not_eq_false', Bool.and_eq_true, Bool.and_eq_false_iff]
    exact h _
  · have hl' : ¬ (500 : Int) < b.length := by omega
    rcases e : rdAtt (b, false) with ⟨⟨a1, a2, a3, a4, a5, a6, a7, a8⟩, r, w⟩
    have ok := rdAtt_all e hb
    have hw := ok.wf
    have hlen := ok.len
    have ew : IntKind.i64.wrap ((b.length : Int) - ((b.length : Int) - (r.length : Int))) = r.length := by rw [w64 (by omega) (by omega)]; omega
    simp (maxSteps := 1000000) (implicitDefEqProofs := false) only [pf7, hl', h28, SRd_eq, go_sem, ↓reduceIte, decide_eq_true_eq, decide_eq_false_iff_not, ge_iff_le, gt_iff_lt, Int.not_le, Int.not_lt, Bool.not_eq_true', Bool.not_eq_false', Bool.and_eq_true, Bool.and_eq_false_iff]
    refine ⟨b, ⟨rfl, by omega⟩, fun id hid => ?_⟩
    simp (maxSteps := 1000000) (implicitDefEqProofs := false) only [h29, SAr_eq, go_sem, ↓reduceIte, decide_eq_true_eq, decide_eq_false_iff_not, ge_iff_le, gt_iff_lt, Int.not_le, Int.not_lt, Bool.not_eq_true', Bool.not_eq_false', Bool.and_eq_true, Bool.and_eq_false_iff]
    refine ⟨b, _, r, w, ⟨rfl, hb, by omega, e⟩, ?_⟩
    rcases ha : attR ⟨a1, a2, a3, a4, a5, a6, a7, a8⟩ w with ⟨x1, x2, x3, x4, x5, x6, x7, x8⟩
    cases hq : (!w && (⟨a1, a2, a3, a4, a5, a6, a7, a8⟩ : AttS).may) <;>
      simp (maxSteps := 1000000) (implicitDefEqProofs := false) only [h30, SAs_eq, AttS.v, go_sem, ↓reduceIte, decide_eq_true_eq, decide_eq_false_iff_not, ge_iff_le, gt_iff_lt, Int.not_le, Int.not_lt, Bool.not_eq_true', Bool.not_eq_false', Bool.and_eq_true, Bool.and_eq_false_iff] <;>
      (refine ⟨_, r, w, ⟨hb, by omega, e⟩, ?_⟩) <;>
      simp (maxSteps := 1000000) (implicitDefEqProofs := false) only [ha, AttS.v, hq, ew, h31, SLf_eq, h16, SAw_eq, beq_self_eq_true, go_sem, ↓reduceIte, decide_eq_true_eq, decide_eq_false_iff_not, ge_iff_le, gt_iff_lt, Int.not_le, Int.not_lt, Bool.not_eq_true', Bool.not_eq_false', Bool.and_eq_true, Bool.and_eq_false_iff]
    · exact ⟨fun _ => h _, fun c => by rw [c.1, c.2] at hq; cases hq⟩
    · exact ⟨fun c => ⟨r, w, rfl, fun _ => h _, fun e => absurd rfl e⟩, fun c => by rcases c with c | c <;> rw [c] at hq <;> simp at hq⟩
theorem walk8 {a1 a2 a3 a4 a6 : Int} {a5 a7 a8 : List Int} {ahead more : List Int} (h16 : Abs.look l 16 = some SAw) (h32 : Abs.look l 32 = some SAp) (h9 : Abs.look l 9 = some SMy) (h26 : Abs.look l 26 = some SSm) (h33 : Abs.look l 33 = some SAb)
    (h28 : Abs.look l 28 = some SRd) (h29 : Abs.look l 29 = some SAr) (h31 : Abs.look l 31 = some SLf)
    (hw : (⟨a1, a2, a3, a4, a5, a6, a7, a8⟩ : AttS).wf) (hb : Byt ahead) (hc : Byt more) (h : ∀ G', Q (.v (.bool true)) G') : Wf E (specOf l) pf8 [.agg [.int .i64 a1, .int .i64 a2, .int .i64 a3, .int .i64 a4, .arr .u8 32 a5, .int .i64 a6, .arr .u8 32 a7, .arr .u8 32 a8], .sli .u8 ahead, .sli .u8 more] G Q := by
  by_cases hl : 200 < ahead.length
  · have hl' : (200 : Int) < ahead.length := by omega
    simp (maxSteps := 1000000) (implicitDefEqProofs := false) only [pf8, hl', h16, SAw_eq, go_sem, ↓reduceIte, decide_eq_true_eq, decide_eq_false_iff_not, ge_iff_le, gt_iff_lt, Int.not_le, Int.not_lt, Bool.not_eq_true', Bool.not_eq_false', Bool.and_eq_true, Bool.and_eq_false_iff]
    exact h _
  · have hl' : ¬ (200 : Int) < ahead.length := by omega
    by_cases hl2 : 200 < more.length
    · have hl2' : (200 : Int) < more.length := by omega
      simp (maxSteps := 1000000) (implicitDefEqProofs := false) only [pf8, hl', hl2', h16, SAw_eq, go_sem, ↓reduceIte, decide_eq_true_eq, decide_eq_false_iff_not, ge_iff_le, gt_iff_lt, Int.not_le, Int.not_lt, Bool.not_eq_true', Bool.not_eq_false', Bool.and_eq_true, Bool.and_eq_false_iff]
      exact h _
    · have hl2' : ¬ (200 : Int) < more.length := by omega
      by_cases hm : (⟨a1, a2, a3, a4, a5, a6, a7, a8⟩ : AttS).May
      · have hmay : (⟨a1, a2, a3, a4, a5, a6, a7, a8⟩ : AttS).may = true := decide_eq_true hm
        obtain ⟨bo, bl⟩ := bytes_ok hw hm
        have e := rdAtt_of (r := more) hw hm
        have e' : rdAtt ((⟨a1, a2, a3, a4, a5, a6, a7, a8⟩ : AttS).bytes ++ more, false) = ((⟨a1, a2, a3, a4, a5, a6, a7, a8⟩ : AttS), (more, false)) := by unfold AttS.bytes; exact e
        have ea : attR (⟨a1, a2, a3, a4, a5, a6, a7, a8⟩ : AttS) false = (⟨a1, a2, a3, a4, a5, a6, a7, a8⟩ : AttS) := by unfold attR; rw [hmay]; rfl
        generalize hbz : (⟨a1, a2, a3, a4, a5, a6, a7, a8⟩ : AttS).bytes = bz at *
        simp (maxSteps := 1000000) (implicitDefEqProofs := false) only [pf8, hl', hl2', h16, SAw_eq, h32, SAp_eq, h9, SMy_eq, hmay, h33, SAb_eq, hbz, h28, SRd_eq, go_sem, ↓reduceIte, decide_eq_true_eq, decide_eq_false_iff_not, ge_iff_le, gt_iff_lt, Int.not_le, Int.not_lt, Bool.not_eq_true', Bool.not_eq_false', Bool.and_eq_true, Bool.and_eq_false_iff]
        refine ⟨ahead, ⟨rfl, by omega, hw⟩, hw, ⟨hw, hm⟩, by omega, by omega, bz ++ more, ⟨rfl, by rw [List.length_append]; omega⟩, fun id hid => ?_⟩
        simp (maxSteps := 1000000) (implicitDefEqProofs := false) only [h29, SAr_eq, go_sem, ↓reduceIte, decide_eq_true_eq, decide_eq_false_iff_not, ge_iff_le, gt_iff_lt, Int.not_le, Int.not_lt, Bool.not_eq_true', Bool.not_eq_false', Bool.and_eq_true, Bool.and_eq_false_iff]
        refine ⟨bz ++ more, _, more, false, ⟨rfl, byt_app bo hc, by rw [List.length_append]; omega, e'⟩, ?_⟩
        simp (maxSteps := 1000000) (implicitDefEqProofs := false) only [ea, AttS.v, hmay, h26, SSm_eq, h31, SLf_eq, h16, SAw_eq, beq_self_eq_true, go_sem, ↓reduceIte, decide_eq_true_eq, decide_eq_false_iff_not, ge_iff_le, gt_iff_lt, Int.not_le, Int.not_lt, Bool.not_eq_true', Bool.not_eq_false', Bool.and_eq_true, Bool.and_eq_false_iff]
        exact ⟨by omega, by omega, ahead ++ bz, ahead ++ bz, ⟨rfl, rfl, by rw [List.length_append]; omega, by rw [List.length_append]; omega⟩, fun _ => ⟨more, false, rfl, fun _ => h _, fun e => absurd rfl e⟩, fun e => absurd rfl e⟩
      · have hmay : (⟨a1, a2, a3, a4, a5, a6, a7, a8⟩ : AttS).may = false := decide_eq_false hm
        simp (maxSteps := 1000000) (implicitDefEqProofs := false) only [pf8, hl', hl2', h16, SAw_eq, h32, SAp_eq, h9, SMy_eq, hmay, h26, SSm_eq, go_sem, ↓reduceIte, decide_eq_true_eq, decide_eq_false_iff_not, ge_iff_le, gt_iff_lt, Int.not_le, Int.not_lt, Bool.not_eq_true', Bool.not_eq_false', Bool.and_eq_true, Bool.and_eq_false_iff]
        exact ⟨ahead, ⟨rfl, by omega, hw⟩, hw, ahead, ahead, ⟨rfl, rfl, by omega, by omega⟩, fun _ => h _, fun e => absurd rfl e⟩
end Go.Proofs.YtpedaeaikbmbnaaDoor.Sha
