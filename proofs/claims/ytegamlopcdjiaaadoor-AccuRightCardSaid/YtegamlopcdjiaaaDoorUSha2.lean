/- Laws over plain values, and what functions of the program hand back; no conditions. -/
import Derived.Test.YtegamlopcdjiaaaDoorUSha1
namespace Go.Proofs.YtegamlopcdjiaaaDoor.Sha
open Go Go.Abs Go.Abs.Sha
set_option linter.unusedSimpArgs false
set_option linter.unusedVariables false
set_option maxRecDepth 100000
def lp130_0 : PC :=
  ((PC.reg [mm 37 7, nn (.t 38) (.bin .lss (.t 37) (.c (.v (.int .i64 64))))]).seq (PC.cond (.t 38) PC.skip (PC.exit 4))).seq ((PC.block 5 ((PC.regD 0
    [mm 41 7, nn (.t 42) (.bin .sub (.t 41) (.c (.v (.int .i64 15)))), nn (.t 43) (.iadrA 64 (.v 3) (.t 42)), nn (.t 44) (.load 1 false (.t 43)), mm 45
    7, nn (.t 46) (.bin .sub (.t 45) (.c (.v (.int .i64 2)))), nn (.t 47) (.iadrA 64 (.v 3) (.t 46)), nn (.t 48) (.load 1 false (.t 47)), ma 8 44, ma 9
    48] []).seq ((PC.reg [mm 49 8, nn (.t 50) (.call 131 [.t 49, .c (.v (.int .i64 7))]), mm 51 8, nn (.t 52) (.call 131 [.t 51, .c (.v (.int .i64
    18))]), nn (.t 53) (.bin .xor (.t 50) (.t 52)), mm 54 8, nn (.t 55) (.bin .shr (.t 54) (.c (.v (.int .u64 3)))), nn (.t 56) (.bin .xor (.t 53) (.t
    55)), ma 10 56]).seq ((PC.reg [mm 57 9, nn (.t 58) (.call 131 [.t 57, .c (.v (.int .i64 17))]), mm 59 9, nn (.t 60) (.call 131 [.t 59, .c (.v (.int
    .i64 19))]), nn (.t 61) (.bin .xor (.t 58) (.t 60)), mm 62 9, nn (.t 63) (.bin .shr (.t 62) (.c (.v (.int .u64 10)))), nn (.t 64) (.bin .xor (.t 61)
    (.t 63)), ma 11 64]).seq (PC.regD 0 [mm 65 7, mm 66 7, nn (.t 67) (.bin .sub (.t 66) (.c (.v (.int .i64 16)))), nn (.t 68) (.iadrA 64 (.v 3) (.t
    67)), nn (.t 69) (.load 1 false (.t 68)), mm 70 10, nn (.t 71) (.bin .add (.t 69) (.t 70)), mm 72 7, nn (.t 73) (.bin .sub (.t 72) (.c (.v (.int .i64
    7)))), nn (.t 74) (.iadrA 64 (.v 3) (.t 73)), nn (.t 75) (.load 1 false (.t 74)), nn (.t 76) (.bin .add (.t 71) (.t 75)), mm 77 11, nn (.t 78) (.bin
    .add (.t 76) (.t 77)), nn (.t 79) (.iadrA 64 (.v 3) (.t 65)), nn .no (.store 1 (.t 79) (.t 78))] []))))).seq (PC.reg [mm 39 7, nn (.t 40) (.bin .add
    (.t 39) (.c (.v (.int .i64 1)))), ma 7 40]))
def lp130_1 : PC :=
  (PC.reg [nn (.t 23) (.bin .lss (.v 22) (.v 21))]).seq ((PC.cond (.t 23) PC.skip (PC.exit 2)).seq ((PC.block 3 ((PC.reg [nn (.t 24) (.iadrS 1 (.v 20)
    (.v 22)), nn (.t 25) (.load 1 false (.t 24)), ma 6 25]).seq (PC.reg [mm 26 4, mm 27 4, nn (.t 28) (.iadrA 64 (.v 3) (.t 27)), nn (.t 29) (.load 1
    false (.t 28)), nn (.t 30) (.bin .shl (.t 29) (.c (.v (.int .u64 8)))), mm 31 6, nn (.t 32) (.conv .u32 (.t 31)), nn (.t 33) (.bin .or (.t 30) (.t
    32)), nn (.t 34) (.iadrA 64 (.v 3) (.t 26)), nn .no (.store 1 (.t 34) (.t 33))]))).seq (PC.reg [nn (.t 35) (.bin .add (.v 22) (.c (.v (.int .i64
    1)))), nn (.v 22) (.mv false (.t 35))])))
def lp130_2 : PC :=
  (PC.reg [nn (.v 13) (.bin .lss (.v 12) (.c (.v (.int .i64 16))))]).seq ((PC.cond (.v 13) PC.skip (PC.exit 0)).seq ((PC.block 1 ((PC.reg [nn (.v 14)
    (.mv true (.v 12)), nn (.v 4) (.mv true (.v 14))]).seq ((PC.reg [nn (.v 15) (.mv false (.v 4)), nn (.v 16) (.bin .mul (.c (.v (.int .i64 4))) (.v
    15)), nn (.v 17) (.mv false (.v 4)), nn (.v 18) (.bin .mul (.c (.v (.int .i64 4))) (.v 17)), nn (.v 19) (.bin .add (.v 18) (.c (.v (.int .i64 4)))),
    nn (.v 20) (.slcA 64 false (.v 1) (some (.v 16)) (some (.v 19)) none), nn (.v 21) (.len (.v 20)), nn (.v 22) (.mv false (.c (.v (.int .i64
    0))))]).seq (PC.block 2 (PC.loop [1, 2, 3, 4, 12, 20, 21, 22] lp130_1))))).seq (PC.reg [nn (.t 36) (.bin .add (.v 12) (.c (.v (.int .i64 1)))), nn
    (.v 12) (.mv false (.t 36))])))
def pf130 : PF :=
  PF.mk 1 23 81 ((PC.reg [nn (.v 1) (.box (.v 0)), nn (.v 2) (.alloc (.arr .u32 64 [0, 0, 0, 0, 0, 0, 0, 0, 0, 0, 0, 0, 0, 0, 0, 0, 0, 0, 0, 0, 0, 0, 0,
    0, 0, 0, 0, 0, 0, 0, 0, 0, 0, 0, 0, 0, 0, 0, 0, 0, 0, 0, 0, 0, 0, 0, 0, 0, 0, 0, 0, 0, 0, 0, 0, 0, 0, 0, 0, 0, 0, 0, 0, 0]))]).seq ((PC.reg [nn (.v
    3) (.alloc (.arr .u32 64 [0, 0, 0, 0, 0, 0, 0, 0, 0, 0, 0, 0, 0, 0, 0, 0, 0, 0, 0, 0, 0, 0, 0, 0, 0, 0, 0, 0, 0, 0, 0, 0, 0, 0, 0, 0, 0, 0, 0, 0, 0,
    0, 0, 0, 0, 0, 0, 0, 0, 0, 0, 0, 0, 0, 0, 0, 0, 0, 0, 0, 0, 0, 0, 0]))]).seq (((PC.reg [nn (.v 12) (.mv false (.c (.v (.int .i64 0))))]).seq
    (PC.block 0 (PC.loop [1, 2, 3, 12] lp130_2))).seq (((PC.reg [nn (.v 7) (.mv true (.c (.v (.int .i64 16))))]).seq (PC.block 4 (PC.loop [2, 3, 7]
    lp130_0))).seq ((PC.reg [nn (.t 80) (.load 64 true (.v 3)), nn .no (.store 64 (.v 2) (.t 80))]).seq PC.ret))))) [(.v 2, some (64, true))]
attribute [local irreducible] W Wops WopsD WL Wop WopD
variable {E : Env} {C : Abs.Spec} {l : List (Nat × Spec1)} {G : List (Nat × V)} {Q : R → List (Nat × V) → Prop}
set_option maxHeartbeats 1000000
theorem inner130 {b ws : List Int} {i : Nat} {c0 c1 c2 c3 : Int} {z : Bx} {QQ : Ex → St → Prop} (hi : i < 64) (hw : ws.length = 64) (h0 : ws.getD i 0 = 0) (hc0 : 0 ≤ c0 ∧ c0 ≤ 255) (hc1 : 0 ≤ c1 ∧ c1 ≤ 255) (hc2 : 0 ≤ c2 ∧ c2 ≤ 255) (hc3 : 0 ≤ c3 ∧ c3 ≤ 255)
    (hx : ∀ ts, QQ (.exit 2) ⟨[none, some (.lp 0 []), some (.lp 1 []), some (.lp 2 []), some (.v (.int .i64 i)), none, none, none, none, none, none, none, some (.v (.int .i64 i)), none, none, none, none, none, none, none, some (.v (.sli .u8 [c0, c1, c2, c3])), some (.v (.int .i64 4)), some (.v (.int .i64 4))], ts, [⟨true, .arr .u8 64 b⟩, z, ⟨false, .arr .u32 64 (ws.set i (c0 * 16777216 + c1 * 65536 + c2 * 256 + c3))⟩], G⟩) :
    WL (W E C lp130_1) [1, 2, 3, 4, 12, 20, 21, 22] QQ 5 ⟨[none, some (.lp 0 []), some (.lp 1 []), some (.lp 2 []), some (.v (.int .i64 i)), none, none, none, none, none, none, none, some (.v (.int .i64 i)), none, none, none, none, none, none, none, some (.v (.sli .u8 [c0, c1, c2, c3])), some (.v (.int .i64 4)), some (.v (.int .i64 0))], [], [⟨true, .arr .u8 64 b⟩, z, ⟨false, .arr .u32 64 ws⟩], G⟩ := by
  have hi2 : (0 : Int) ≤ i ∧ (i : Int) < 64 := by omega
  have hg : ∀ a, (ws.set i a).getD i 0 = a := fun a => getD_set_self (by omega)
  refine WL_in lp130_1.eq_1 ?_
  simp (maxSteps := 1000000) (implicitDefEqProofs := false) (disch := omega) only [h0, Int.toNat_natCast, hi, hi2, pw8, List.set_set, hg, go_sem, ↓reduceIte, w64]
  have ob0 : bOr .u32 (IntKind.u32.wrap 0) (IntKind.u32.wrap c0) = c0 := by
    have := or_byte (x := 0) (c := c0) (by omega) hc0
    rw [show (0 : Int) * 256 = 0 from rfl, show (0 : Int) + c0 = c0 by omega] at this; exact this
  rw [ob0]
  refine WL_in lp130_1.eq_1 ?_
  simp (maxSteps := 1000000) (implicitDefEqProofs := false) (disch := omega) only [h0, Int.toNat_natCast, hi, hi2, pw8, List.set_set, hg, go_sem, ↓reduceIte, w64]
  rw [or_byte (by omega) hc1]
  refine WL_in lp130_1.eq_1 ?_
  simp (maxSteps := 1000000) (implicitDefEqProofs := false) (disch := omega) only [h0, Int.toNat_natCast, hi, hi2, pw8, List.set_set, hg, go_sem, ↓reduceIte, w64]
  rw [or_byte (by omega) hc2]
  refine WL_in lp130_1.eq_1 ?_
  simp (maxSteps := 1000000) (implicitDefEqProofs := false) (disch := omega) only [h0, Int.toNat_natCast, hi, hi2, pw8, List.set_set, hg, go_sem, ↓reduceIte, w64]
  rw [or_byte (by omega) hc3]
  refine WL_in lp130_1.eq_1 ?_
  simp (maxSteps := 1000000) (implicitDefEqProofs := false) (disch := omega) only [h0, Int.toNat_natCast, hi, hi2, pw8, List.set_set, hg, go_sem, ↓reduceIte, w64]
  have := hx
  rw [show c0 * 16777216 + c1 * 65536 + c2 * 256 + c3 = ((c0 * 256 + c1) * 256 + c2) * 256 + c3 by omega] at this
  exact this _
theorem take4 {b : List Int} {i : Nat} (hb : b.length = 64) (hi : i < 16) : (b.take (4 * (i : Int) + 4).toNat).drop (4 * (i : Int)).toNat = [b.getD (4 * i) 0, b.getD (4 * i + 1) 0, b.getD (4 * i + 2) 0, b.getD (4 * i + 3) 0] := by
  rw [show (4 * (i : Int) + 4).toNat = 4 * i + 4 by omega, show (4 * (i : Int)).toNat = 4 * i by omega]
  apply List.ext_getElem?
  intro j
  rw [List.getElem?_drop, List.getElem?_take]
  match j with
  | 0 => rw [if_pos (by omega), List.getElem?_eq_getElem (by omega)]; simp [List.getD_eq_getElem?_getD, List.getElem?_eq_getElem (show 4 * i < b.length by omega)]
  | 1 => rw [if_pos (by omega), List.getElem?_eq_getElem (by omega)]; simp [List.getD_eq_getElem?_getD, List.getElem?_eq_getElem (show 4 * i + 1 < b.length by omega)]
  | 2 => rw [if_pos (by omega), List.getElem?_eq_getElem (by omega)]; simp [List.getD_eq_getElem?_getD, List.getElem?_eq_getElem (show 4 * i + 2 < b.length by omega)]
  | 3 => rw [if_pos (by omega), List.getElem?_eq_getElem (by omega)]; simp [List.getD_eq_getElem?_getD, List.getElem?_eq_getElem (show 4 * i + 3 < b.length by omega)]
  | j + 4 => rw [if_neg (by omega)]; simp
theorem outer130 {b : List Int} {z : Bx} {QQ : Ex → St → Prop} (hb : Byt b) (hl : b.length = 64)
    (hx : ∀ ts fz, QQ (.exit 0) ⟨[none, some (.lp 0 []), some (.lp 1 []), some (.lp 2 []), none, none, none, none, none, none, none, none, some (.v (.int .i64 16)), some (.v (.bool false)), none, none, none, none, none, none, none, none, none], ts, [⟨fz, .arr .u8 64 b⟩, z, ⟨false, .arr .u32 64 (sched b 16)⟩], G⟩) :
    ∀ (m i : Nat) (fz : Bool), i + m = 16 → WL (W E C lp130_2) [1, 2, 3, 12] QQ (m + 1) ⟨[none, some (.lp 0 []), some (.lp 1 []), some (.lp 2 []), none, none, none, none, none, none, none, none, some (.v (.int .i64 i)), none, none, none, none, none, none, none, none, none, none], [], [⟨fz, .arr .u8 64 b⟩, z, ⟨false, .arr .u32 64 (sched b i)⟩], G⟩ := by
  intro m
  induction m with
  | zero =>
    intro i fz hi
    obtain rfl : i = 16 := by omega
    refine WL_in lp130_2.eq_1 ?_
    simp (maxSteps := 1000000) (implicitDefEqProofs := false) only [go_sem, ↓reduceIte]
    exact hx _ _
  | succ m ih =>
    intro i fz hi
    have hw1 : IntKind.i64.wrap (4 * (i : Int)) = 4 * i := w64 (by omega) (by omega)
    have hw2 : IntKind.i64.wrap (4 * (i : Int) + 4) = 4 * i + 4 := w64 (by omega) (by omega)
    have ht := take4 hl (show i < 16 by omega)
    have hlt : (i : Int) < 16 := by omega
    refine WL_in lp130_2.eq_1 ?_
    simp (maxSteps := 1000000) (implicitDefEqProofs := false) only [hw1, hw2, ht, hlt, go_sem, ↓reduceIte]
    refine ⟨⟨by omega, by omega, by omega⟩, 5, ?_⟩
    simp (maxSteps := 1000000) (implicitDefEqProofs := false) only [go_sem, ↓reduceIte]
    refine inner130 (by omega) (sched_len b i) (sched_get0 (Nat.le_refl i)) (byt_getD hb _) (byt_getD hb _) (byt_getD hb _) (byt_getD hb _) (fun ts => ?_)
    simp (maxSteps := 1000000) (implicitDefEqProofs := false) only [go_sem, ↓reduceIte]
    have hs : (sched b i).set i (b.getD (4 * i) 0 * 16777216 + b.getD (4 * i + 1) 0 * 65536 + b.getD (4 * i + 2) 0 * 256 + b.getD (4 * i + 3) 0) = sched b (i + 1) := by
      simp only [sched, word4, if_pos (show i < 16 by omega)]
    rw [hs, w64 (by omega) (by omega)]
    exact ih (i + 1) true (by omega)
theorem next130 {b : List Int} {z : Bx} {fz : Bool} {QQ : Ex → St → Prop} (h78 : Abs.look l 131 = some SRo) (hb : Byt b)
    (hx : ∀ ts, QQ (.exit 4) ⟨[none, none, some (.lp 1 []), some (.lp 2 []), none, none, none, some (.v (.int .i64 64)), none, none, none, none, none, none, none, none, none, none, none, none, none, none, none], ts, [⟨fz, .arr .u8 64 b⟩, z, ⟨false, .arr .u32 64 (sched b 64)⟩], G⟩) :
    ∀ (m i : Nat), i + m = 64 → 16 ≤ i → WL (W E (specOf l) lp130_0) [2, 3, 7] QQ (m + 1) ⟨[none, none, some (.lp 1 []), some (.lp 2 []), none, none, none, some (.v (.int .i64 i)), none, none, none, none, none, none, none, none, none, none, none, none, none, none, none], [], [⟨fz, .arr .u8 64 b⟩, z, ⟨false, .arr .u32 64 (sched b i)⟩], G⟩ := by
  intro m
  induction m with
  | zero =>
    intro i hi h16
    obtain rfl : i = 64 := by omega
    refine WL_in lp130_0.eq_1 ?_
    simp (maxSteps := 1000000) (implicitDefEqProofs := false) only [go_sem, ↓reduceIte]
    exact hx _
  | succ m ih =>
    intro i hi h16
    have e15 : IntKind.i64.wrap ((i : Int) - 15) = ((i - 15 : Nat) : Int) := by rw [w64 (by omega) (by omega)]; omega
    have e2 : IntKind.i64.wrap ((i : Int) - 2) = ((i - 2 : Nat) : Int) := by rw [w64 (by omega) (by omega)]; omega
    have e16 : IntKind.i64.wrap ((i : Int) - 16) = ((i - 16 : Nat) : Int) := by rw [w64 (by omega) (by omega)]; omega
    have e7 : IntKind.i64.wrap ((i : Int) - 7) = ((i - 7 : Nat) : Int) := by rw [w64 (by omega) (by omega)]; omega
    have g15 : i - 15 < 64 := by omega
    have g2 : i - 2 < 64 := by omega
    have g16 : i - 16 < 64 := by omega
    have g7 : i - 7 < 64 := by omega
    have gi : i < 64 := by omega
    have hlt : (i : Int) < 64 := by omega
    have hws := sched_wd hb i
    refine WL_in lp130_0.eq_1 ?_
    simp (maxSteps := 1000000) (implicitDefEqProofs := false) only [h78, SRo_eq, e15, e2, e16, e7, g15, g2, g16, g7, gi, hlt, Int.toNat_natCast, go_sem, ↓reduceIte]
    refine ⟨⟨by omega, by omega⟩, ⟨by omega, by omega⟩, wd_getD hws _, wd_getD hws _, wd_getD hws _, wd_getD hws _, ⟨by omega, by omega⟩, ⟨by omega, by omega⟩, by omega, ?_⟩
    rw [fd_shf (wd_getD hws _) 3 (by decide), fd_shf (wd_getD hws _) 10 (by decide), w64 (x := (i : Int) + 1) (by omega) (by omega)]
    have hs : (sched b i).set i (IntKind.u32.wrap (IntKind.u32.wrap (IntKind.u32.wrap ((sched b i).getD (i - 16) 0 + bXor .u32 (bXor .u32 (rot ((sched b i).getD (i - 15) 0) 7) (rot ((sched b i).getD (i - 15) 0) 18)) (shf ((sched b i).getD (i - 15) 0) 3)) + (sched b i).getD (i - 7) 0) +
        bXor .u32 (bXor .u32 (rot ((sched b i).getD (i - 2) 0) 17) (rot ((sched b i).getD (i - 2) 0) 19)) (shf ((sched b i).getD (i - 2) 0) 10))) = sched b (i + 1) := by
      simp only [sched, if_neg (show ¬ i < 16 by omega), nextW, sig0, sig1, wrap32]
      congr 1
      omega
    rw [hs]
    exact ih (i + 1) (by omega) (by omega)
theorem walk130 {b : List Int} (h78 : Abs.look l 131 = some SRo) (hb : Byt b) (hl : b.length = 64) (h : Q (.v (.arr .u32 64 (sched b 64))) G) : Wf E (specOf l) pf130 [.arr .u8 64 b] G Q := by
  simp (maxSteps := 1000000) (implicitDefEqProofs := false) only [pf130, go_sem, ↓reduceIte]
  refine ⟨17, ?_⟩
  simp (maxSteps := 1000000) (implicitDefEqProofs := false) only [go_sem, ↓reduceIte]
  refine outer130 hb hl (fun ts fz => ?_) 16 0 false (by omega)
  simp (maxSteps := 1000000) (implicitDefEqProofs := false) only [go_sem, ↓reduceIte]
  refine ⟨49, ?_⟩
  simp (maxSteps := 1000000) (implicitDefEqProofs := false) only [go_sem, ↓reduceIte]
  refine next130 h78 hb (fun ts => ?_) 48 16 (by omega) (by omega)
  simp (maxSteps := 1000000) (implicitDefEqProofs := false) only [go_sem, ↓reduceIte]
  exact h
end Go.Proofs.YtegamlopcdjiaaaDoor.Sha
