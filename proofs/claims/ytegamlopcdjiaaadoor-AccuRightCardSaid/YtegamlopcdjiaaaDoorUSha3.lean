/- Laws over plain values, and what functions of the program hand back; no conditions. -/
import Derived.Test.YtegamlopcdjiaaaDoorUSha2
namespace Go.Proofs.YtegamlopcdjiaaaDoor.Sha
open Go Go.Abs Go.Abs.Sha
set_option linter.unusedSimpArgs false
set_option linter.unusedVariables false
set_option maxRecDepth 100000
def lp125_0 : PC :=
  (PC.reg [nn (.t 109) (.bin .lss (.v 108) (.c (.v (.int .i64 8))))]).seq ((PC.cond (.t 109) PC.skip (PC.exit 2)).seq ((PC.block 3 ((PC.reg [mm 110 108,
    nn (.t 111) (.idxA 8 (.v 107) (.v 108)), ma 17 110, ma 18 111]).seq (PC.reg [mm 112 17, nn (.t 113) (.iadrA 8 (.v 2) (.t 112)), nn (.t 114) (.load 1
    false (.t 113)), mm 115 18, nn (.t 116) (.bin .add (.t 114) (.t 115)), nn (.t 117) (.iadrA 8 (.v 2) (.t 112)), nn .no (.store 1 (.t 117) (.t
    116))]))).seq (PC.reg [nn (.t 118) (.bin .add (.v 108) (.c (.v (.int .i64 1)))), nn (.v 108) (.mv false (.t 118))])))
def lp125_1 : PC :=
  (PC.reg [nn (.v 38) (.bin .lss (.v 37) (.c (.v (.int .i64 64))))]).seq ((PC.cond (.v 38) PC.skip (PC.exit 0)).seq ((PC.block 1 ((PC.reg [nn (.v 39)
    (.mv false (.v 37)), nn (.v 40) (.idxA 64 (.v 36) (.v 37)), nn (.v 13) (.mv true (.v 39)), nn (.v 14) (.mv true (.v 40))]).seq ((PC.regD 0 [nn (.v
    41) (.mv false (.v 12)), nn (.v 42) (.mv false (.v 9)), nn (.v 43) (.call 131 [.v 42, .c (.v (.int .i64 6))]), nn (.v 44) (.mv false (.v 9)), nn (.v
    45) (.call 131 [.v 44, .c (.v (.int .i64 11))]), nn (.v 46) (.bin .xor (.v 43) (.v 45)), nn (.v 47) (.mv false (.v 9)), nn (.v 48) (.call 131 [.v 47,
    .c (.v (.int .i64 25))]), nn (.v 49) (.bin .xor (.v 46) (.v 48)), nn (.v 50) (.bin .add (.v 41) (.v 49)), nn (.v 51) (.mv false (.v 9)), nn (.v 52)
    (.mv false (.v 10)), nn (.v 53) (.bin .and (.v 51) (.v 52)), nn (.v 54) (.mv false (.v 9)), nn (.v 55) (.un .xor (.v 54)), nn (.v 56) (.mv false (.v
    11)), nn (.v 57) (.bin .and (.v 55) (.v 56)), nn (.v 58) (.bin .xor (.v 53) (.v 57)), nn (.v 59) (.bin .add (.v 50) (.v 58)), nn (.v 60) (.mv false
    (.v 13)), nn (.v 61) (.iadrA 64 (.c (.gl 0)) (.v 60)), nn (.v 62) (.load 1 false (.v 61)), nn (.v 63) (.bin .add (.v 59) (.v 62)), nn (.v 64) (.mv
    false (.v 14)), nn (.v 65) (.bin .add (.v 63) (.v 64)), nn (.v 15) (.mv true (.v 65))] []).seq ((PC.reg [nn (.v 66) (.mv false (.v 5)), nn (.v 67)
    (.call 131 [.v 66, .c (.v (.int .i64 2))]), nn (.v 68) (.mv false (.v 5)), nn (.v 69) (.call 131 [.v 68, .c (.v (.int .i64 13))]), nn (.v 70) (.bin
    .xor (.v 67) (.v 69)), nn (.v 71) (.mv false (.v 5)), nn (.v 72) (.call 131 [.v 71, .c (.v (.int .i64 22))]), nn (.v 73) (.bin .xor (.v 70) (.v 72)),
    nn (.v 74) (.mv false (.v 5)), nn (.v 75) (.mv false (.v 6)), nn (.v 76) (.bin .and (.v 74) (.v 75)), nn (.v 77) (.mv false (.v 5)), nn (.v 78) (.mv
    false (.v 7)), nn (.v 79) (.bin .and (.v 77) (.v 78)), nn (.v 80) (.bin .xor (.v 76) (.v 79)), nn (.v 81) (.mv false (.v 6)), nn (.v 82) (.mv false
    (.v 7)), nn (.v 83) (.bin .and (.v 81) (.v 82)), nn (.v 84) (.bin .xor (.v 80) (.v 83)), nn (.v 85) (.bin .add (.v 73) (.v 84)), nn (.v 16) (.mv true
    (.v 85))]).seq (PC.reg [nn (.v 86) (.mv false (.v 11)), nn (.v 87) (.mv false (.v 10)), nn (.v 88) (.mv false (.v 9)), nn (.v 89) (.mv false (.v 8)),
    nn (.v 90) (.mv false (.v 15)), nn (.v 91) (.bin .add (.v 89) (.v 90)), nn (.v 92) (.mv false (.v 7)), nn (.v 93) (.mv false (.v 6)), nn (.v 94) (.mv
    false (.v 5)), nn (.v 95) (.mv false (.v 15)), nn (.v 96) (.mv false (.v 16)), nn (.v 97) (.bin .add (.v 95) (.v 96)), nn (.v 12) (.mv true (.v 86)),
    nn (.v 11) (.mv true (.v 87)), nn (.v 10) (.mv true (.v 88)), nn (.v 9) (.mv true (.v 91)), nn (.v 8) (.mv true (.v 92)), nn (.v 7) (.mv true (.v
    93)), nn (.v 6) (.mv true (.v 94)), nn (.v 5) (.mv true (.v 97))]))))).seq (PC.reg [nn (.v 98) (.bin .add (.v 37) (.c (.v (.int .i64 1)))), nn (.v
    37) (.mv false (.v 98))])))
def pf125 : PF :=
  PF.mk 2 109 120 ((PC.reg [nn (.v 2) (.box (.v 0)), nn (.v 3) (.box (.v 1)), nn (.v 4) (.alloc (.arr .u32 8 [0, 0, 0, 0, 0, 0, 0, 0]))]).seq ((PC.regD 0
    [nn (.v 19) (.iadrA 8 (.v 2) (.c (.v (.int .i64 0)))), nn (.v 20) (.load 1 false (.v 19)), nn (.v 21) (.iadrA 8 (.v 2) (.c (.v (.int .i64 1)))), nn
    (.v 22) (.load 1 false (.v 21)), nn (.v 23) (.iadrA 8 (.v 2) (.c (.v (.int .i64 2)))), nn (.v 24) (.load 1 false (.v 23)), nn (.v 25) (.iadrA 8 (.v
    2) (.c (.v (.int .i64 3)))), nn (.v 26) (.load 1 false (.v 25)), nn (.v 27) (.iadrA 8 (.v 2) (.c (.v (.int .i64 4)))), nn (.v 28) (.load 1 false (.v
    27)), nn (.v 29) (.iadrA 8 (.v 2) (.c (.v (.int .i64 5)))), nn (.v 30) (.load 1 false (.v 29)), nn (.v 31) (.iadrA 8 (.v 2) (.c (.v (.int .i64 6)))),
    nn (.v 32) (.load 1 false (.v 31)), nn (.v 33) (.iadrA 8 (.v 2) (.c (.v (.int .i64 7)))), nn (.v 34) (.load 1 false (.v 33)), nn (.v 5) (.mv true (.v
    20)), nn (.v 6) (.mv true (.v 22)), nn (.v 7) (.mv true (.v 24)), nn (.v 8) (.mv true (.v 26)), nn (.v 9) (.mv true (.v 28)), nn (.v 10) (.mv true
    (.v 30)), nn (.v 11) (.mv true (.v 32)), nn (.v 12) (.mv true (.v 34))] []).seq (((PC.reg [nn (.v 35) (.load 64 true (.v 3)), nn (.v 36) (.call 130
    [.v 35]), nn (.v 37) (.mv false (.c (.v (.int .i64 0))))]).seq (PC.block 0 (PC.loop [2, 4, 5, 6, 7, 8, 9, 10, 11, 12, 36, 37] lp125_1))).seq
    (((PC.reg [nn (.v 99) (.mv false (.v 5)), nn (.v 100) (.mv false (.v 6)), nn (.v 101) (.mv false (.v 7)), nn (.v 102) (.mv false (.v 8)), nn (.v 103)
    (.mv false (.v 9)), nn (.v 104) (.mv false (.v 10)), nn (.v 105) (.mv false (.v 11)), nn (.v 106) (.mv false (.v 12)), nn (.v 107) (.build (.arr .u32
    8 [0, 0, 0, 0, 0, 0, 0, 0]) [(0, .v 99), (1, .v 100), (2, .v 101), (3, .v 102), (4, .v 103), (5, .v 104), (6, .v 105), (7, .v 106)]), nn (.v 108)
    (.mv false (.c (.v (.int .i64 0))))]).seq (PC.block 2 (PC.loop [2, 4, 107, 108] lp125_0))).seq ((PC.reg [nn (.t 119) (.load 8 true (.v 2)), nn .no
    (.store 8 (.v 4) (.t 119))]).seq PC.ret))))) [(.v 4, some (8, true))]
attribute [local irreducible] W Wops WopsD WL Wop WopD
variable {E : Env} {C : Abs.Spec} {l : List (Nat × Spec1)} {G : List (Nat × V)} {Q : R → List (Nat × V) → Prop}
set_option maxHeartbeats 1000000
def SSc : Spec1
  | [.arr .u8 64 b], G, Q => (Byt b ∧ b.length = 64) ∧ Q (.v (.arr .u32 64 (sched b 64))) G
  | _, _, _ => False
theorem SSc_eq {b} : SSc [.arr .u8 64 b] G Q = ((Byt b ∧ b.length = 64) ∧ Q (.v (.arr .u32 64 (sched b 64))) G) := rfl
theorem rounds125 {kt ws : List Int} {s0 : Regs} {L : List Bx} {QQ : Ex → St → Prop} (h78 : Abs.look l 131 = some SRo) (hK : Abs.look E.tab 0 = some (.arr .u32 64 kt)) (hs : s0.ok)
    (hx : ∀ ts, QQ (.exit 0) ⟨[none, none, some (.lp 0 []), none, some (.lp 2 []), some (.v (.int .u32 (rnds kt ws s0 64).a)), some (.v (.int .u32 (rnds kt ws s0 64).b)), some (.v (.int .u32 (rnds kt ws s0 64).c)), some (.v (.int .u32 (rnds kt ws s0 64).d)), some (.v (.int .u32 (rnds kt ws s0 64).e)), some (.v (.int .u32 (rnds kt ws s0 64).f)), some (.v (.int .u32 (rnds kt ws s0 64).g)), some (.v (.int .u32 (rnds kt ws s0 64).h)), none, none, none, none, none, none, none, none, none, none, none, none, none, none, none, none, none, none, none, none, none, none, none, some (.v (.arr .u32 64 ws)), some (.v (.int .i64 64)), some (.v (.bool false)), none, none, none, none, none, none, none, none, none, none, none, none, none, none, none, none, none, none, none, none, none, none, none, none, none, none, none, none, none, none, none, none, none, none, none, none, none, none, none, none, none, none, none, none, none, none, none, none, none, none, none, none, none, none, none, none, none, none, none, none, none, none, none, none, none, none, none, none, none, none], ts, L, G⟩) :
    ∀ (m i : Nat), i + m = 64 → WL (W E (specOf l) lp125_1) [2, 4, 5, 6, 7, 8, 9, 10, 11, 12, 36, 37] QQ (m + 1) ⟨[none, none, some (.lp 0 []), none, some (.lp 2 []), some (.v (.int .u32 (rnds kt ws s0 i).a)), some (.v (.int .u32 (rnds kt ws s0 i).b)), some (.v (.int .u32 (rnds kt ws s0 i).c)), some (.v (.int .u32 (rnds kt ws s0 i).d)), some (.v (.int .u32 (rnds kt ws s0 i).e)), some (.v (.int .u32 (rnds kt ws s0 i).f)), some (.v (.int .u32 (rnds kt ws s0 i).g)), some (.v (.int .u32 (rnds kt ws s0 i).h)), none, none, none, none, none, none, none, none, none, none, none, none, none, none, none, none, none, none, none, none, none, none, none, some (.v (.arr .u32 64 ws)), some (.v (.int .i64 i)), none, none, none, none, none, none, none, none, none, none, none, none, none, none, none, none, none, none, none, none, none, none, none, none, none, none, none, none, none, none, none, none, none, none, none, none, none, none, none, none, none, none, none, none, none, none, none, none, none, none, none, none, none, none, none, none, none, none, none, none, none, none, none, none, none, none, none, none, none, none, none], [], L, G⟩ := by
  intro m
  induction m with
  | zero =>
    intro i hi
    obtain rfl : i = 64 := by omega
    refine WL_in lp125_1.eq_1 ?_
    simp (maxSteps := 1000000) (implicitDefEqProofs := false) only [go_sem, ↓reduceIte]
    exact hx _
  | succ m ih =>
    intro i hi
    have gi : i < 64 := by omega
    have hlt : (i : Int) < 64 := by omega
    obtain ⟨k1, k2, k3, k4, k5, k6, k7, k8⟩ := rnds_ok (k := kt) (w := ws) hs i
    refine WL_in lp125_1.eq_1 ?_
    simp (maxSteps := 1000000) (implicitDefEqProofs := false) only [h78, SRo_eq, hK, gi, hlt, k1, k5, Int.toNat_natCast, go_sem, ↓reduceIte]
    refine ⟨by omega, by omega, ?_⟩
    have hh := ih (i + 1) (by omega)
    rw [w64 (x := (i : Int) + 1) (by omega) (by omega)]
    simp only [rnds, rnd, tee, you, big0, big1, cho, maj, wrap32, Int.emod_add_emod, Int.add_emod_emod, Int.natCast_add, Int.cast_ofNat_Int] at hh ⊢
    exact hh
theorem adds125 {a b c d e f g h : Int} {s : List Int} {z0 z2 : Bx} {QQ : Ex → St → Prop} (hl : s.length = 8)
    (hx : ∀ ts, QQ (.exit 2) ⟨[none, none, some (.lp 0 []), none, some (.lp 2 []), none, none, none, none, none, none, none, none, none, none, none, none, none, none, none, none, none, none, none, none, none, none, none, none, none, none, none, none, none, none, none, none, none, none, none, none, none, none, none, none, none, none, none, none, none, none, none, none, none, none, none, none, none, none, none, none, none, none, none, none, none, none, none, none, none, none, none, none, none, none, none, none, none, none, none, none, none, none, none, none, none, none, none, none, none, none, none, none, none, none, none, none, none, none, none, none, none, none, none, none, none, none, some (.v (.arr .u32 8 [a, b, c, d, e, f, g, h])), some (.v (.int .i64 8))], ts, [⟨false, .arr .u32 8 [(s.getD 0 0 + a) % 4294967296, (s.getD 1 0 + b) % 4294967296, (s.getD 2 0 + c) % 4294967296, (s.getD 3 0 + d) % 4294967296, (s.getD 4 0 + e) % 4294967296, (s.getD 5 0 + f) % 4294967296, (s.getD 6 0 + g) % 4294967296, (s.getD 7 0 + h) % 4294967296]⟩, z0, z2], G⟩) :
    WL (W E C lp125_0) [2, 4, 107, 108] QQ 9 ⟨[none, none, some (.lp 0 []), none, some (.lp 2 []), none, none, none, none, none, none, none, none, none, none, none, none, none, none, none, none, none, none, none, none, none, none, none, none, none, none, none, none, none, none, none, none, none, none, none, none, none, none, none, none, none, none, none, none, none, none, none, none, none, none, none, none, none, none, none, none, none, none, none, none, none, none, none, none, none, none, none, none, none, none, none, none, none, none, none, none, none, none, none, none, none, none, none, none, none, none, none, none, none, none, none, none, none, none, none, none, none, none, none, none, none, none, some (.v (.arr .u32 8 [a, b, c, d, e, f, g, h])), some (.v (.int .i64 0))], [], [⟨false, .arr .u32 8 s⟩, z0, z2], G⟩ := by
  obtain ⟨s0, s1, s2, s3, s4, s5, s6, s7, rfl⟩ : ∃ s0 s1 s2 s3 s4 s5 s6 s7, s = [s0, s1, s2, s3, s4, s5, s6, s7] := by
    match s, hl with
    | [s0, s1, s2, s3, s4, s5, s6, s7], _ => exact ⟨_, _, _, _, _, _, _, _, rfl⟩
  iterate 9
    refine WL_in lp125_0.eq_1 ?_
    simp (maxSteps := 1000000) (implicitDefEqProofs := false) (disch := omega) only [go_sem, ↓reduceIte, w64]
  simp only [wrap32]
  exact hx _
theorem ofL_ok {s : List Int} (h : ∀ x ∈ s, Wd x) : (ofL s).ok := ⟨wd_getD h _, wd_getD h _, wd_getD h _, wd_getD h _, wd_getD h _, wd_getD h _, wd_getD h _, wd_getD h _⟩
theorem walk125 {kt s b : List Int} (h78 : Abs.look l 131 = some SRo) (h77 : Abs.look l 130 = some SSc) (hK : Abs.look E.tab 0 = some (.arr .u32 64 kt)) (hs : ∀ x ∈ s, Wd x) (hsl : s.length = 8) (hb : Byt b) (hl : b.length = 64)
    (h : Q (.v (.arr .u32 8 (block kt s b))) G) : Wf E (specOf l) pf125 [.arr .u32 8 s, .arr .u8 64 b] G Q := by
  simp (maxSteps := 1000000) (implicitDefEqProofs := false) only [pf125, h77, SSc_eq, go_sem, ↓reduceIte]
  refine ⟨⟨hb, hl⟩, 65, ?_⟩
  simp (maxSteps := 1000000) (implicitDefEqProofs := false) only [go_sem, ↓reduceIte]
  refine rounds125 (s0 := ofL s) h78 hK (ofL_ok hs) (fun ts => ?_) 64 0 (by omega)
  simp (maxSteps := 1000000) (implicitDefEqProofs := false) only [go_sem, ↓reduceIte]
  refine ⟨9, ?_⟩
  simp (maxSteps := 1000000) (implicitDefEqProofs := false) only [go_sem, ↓reduceIte]
  refine adds125 hsl (fun ts => ?_)
  simp (maxSteps := 1000000) (implicitDefEqProofs := false) only [go_sem, ↓reduceIte]
  exact h
end Go.Proofs.YtegamlopcdjiaaaDoor.Sha
