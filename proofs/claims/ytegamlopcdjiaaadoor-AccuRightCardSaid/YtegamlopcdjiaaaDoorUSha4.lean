/- Laws over plain values, and what functions of the program hand back; no conditions. -/
import Derived.Test.YtegamlopcdjiaaaDoorUSha2
namespace Go.Proofs.YtegamlopcdjiaaaDoor.Sha
open Go Go.Abs Go.Abs.Sha
set_option linter.unusedSimpArgs false
set_option linter.unusedVariables false
set_option maxRecDepth 100000
def lp127_0 : PC :=
  ((PC.reg [mm 183 17, nn (.t 184) (.bin .lss (.t 183) (.c (.v (.int .i64 8))))]).seq (PC.cond (.t 184) PC.skip (PC.exit 4))).seq ((PC.block 5 (PC.regD 0
    [mm 187 17, mm 188 17, nn (.t 189) (.iadrA 8 (.v 9) (.t 188)), nn (.t 190) (.load 1 false (.t 189)), mm 191 17, nn (.t 192) (.iadrA 8 (.v 2) (.t
    191)), nn (.t 193) (.load 1 false (.t 192)), nn (.t 194) (.bin .add (.t 190) (.t 193)), nn (.t 195) (.iadrA 8 (.v 9) (.t 187)), nn .no (.store 1 (.t
    195) (.t 194))] [])).seq (PC.reg [mm 185 17, nn (.t 186) (.bin .add (.t 185) (.c (.v (.int .i64 1)))), ma 17 186]))
def lp127_1 : PC :=
  ((PC.reg [mm 99 10, nn (.t 100) (.bin .lss (.t 99) (.c (.v (.int .i64 64))))]).seq (PC.cond (.t 100) PC.skip (PC.exit 2))).seq ((PC.block 3 ((PC.regD 0
    [nn (.t 103) (.iadrA 8 (.v 9) (.c (.v (.int .i64 4)))), nn (.t 104) (.load 1 false (.t 103)), nn (.t 105) (.iadrA 8 (.v 9) (.c (.v (.int .i64 0)))),
    nn (.t 106) (.load 1 false (.t 105)), ma 11 104, ma 12 106] []).seq ((PC.reg [mm 107 11, nn (.t 108) (.iadrA 8 (.v 9) (.c (.v (.int .i64 5)))), nn
    (.t 109) (.load 1 false (.t 108)), nn (.t 110) (.bin .and (.t 107) (.t 109)), mm 111 11, nn (.t 112) (.bin .sub (.c (.v (.int .u32 4294967295))) (.t
    111)), nn (.t 113) (.iadrA 8 (.v 9) (.c (.v (.int .i64 6)))), nn (.t 114) (.load 1 false (.t 113)), nn (.t 115) (.bin .and (.t 112) (.t 114)), nn (.t
    116) (.bin .or (.t 110) (.t 115)), ma 13 116]).seq ((PC.reg [mm 117 12, nn (.t 118) (.iadrA 8 (.v 9) (.c (.v (.int .i64 1)))), nn (.t 119) (.load 1
    false (.t 118)), nn (.t 120) (.bin .and (.t 117) (.t 119)), mm 121 12, nn (.t 122) (.iadrA 8 (.v 9) (.c (.v (.int .i64 2)))), nn (.t 123) (.load 1
    false (.t 122)), nn (.t 124) (.bin .and (.t 121) (.t 123)), nn (.t 125) (.bin .or (.t 120) (.t 124)), nn (.t 126) (.iadrA 8 (.v 9) (.c (.v (.int .i64
    1)))), nn (.t 127) (.load 1 false (.t 126)), nn (.t 128) (.iadrA 8 (.v 9) (.c (.v (.int .i64 2)))), nn (.t 129) (.load 1 false (.t 128)), nn (.t 130)
    (.bin .and (.t 127) (.t 129)), nn (.t 131) (.bin .or (.t 125) (.t 130)), ma 14 131]).seq ((PC.regD 0 [nn (.t 132) (.iadrA 8 (.v 9) (.c (.v (.int .i64
    7)))), nn (.t 133) (.load 1 false (.t 132)), mm 134 11, nn (.t 135) (.call 132 [.t 134, .c (.v (.int .i64 6))]), mm 136 11, nn (.t 137) (.call 132
    [.t 136, .c (.v (.int .i64 11))]), nn (.t 138) (.bin .xor (.t 135) (.t 137)), mm 139 11, nn (.t 140) (.call 132 [.t 139, .c (.v (.int .i64 25))]), nn
    (.t 141) (.bin .xor (.t 138) (.t 140)), nn (.t 142) (.bin .add (.t 133) (.t 141)), mm 143 13, nn (.t 144) (.bin .add (.t 142) (.t 143)), mm 145 10,
    nn (.t 146) (.iadrA 64 (.c (.gl 1)) (.t 145)), nn (.t 147) (.load 1 false (.t 146)), nn (.t 148) (.bin .add (.t 144) (.t 147)), mm 149 10, nn (.t
    150) (.iadrA 64 (.v 5) (.t 149)), nn (.t 151) (.load 1 false (.t 150)), nn (.t 152) (.bin .add (.t 148) (.t 151)), ma 15 152] []).seq ((PC.reg [mm
    153 12, nn (.t 154) (.call 132 [.t 153, .c (.v (.int .i64 2))]), mm 155 12, nn (.t 156) (.call 132 [.t 155, .c (.v (.int .i64 13))]), nn (.t 157)
    (.bin .xor (.t 154) (.t 156)), mm 158 12, nn (.t 159) (.call 132 [.t 158, .c (.v (.int .i64 22))]), nn (.t 160) (.bin .xor (.t 157) (.t 159)), mm 161
    14, nn (.t 162) (.bin .add (.t 160) (.t 161)), ma 16 162]).seq (PC.reg [mm 163 15, mm 164 16, nn (.t 165) (.bin .add (.t 163) (.t 164)), nn (.t 166)
    (.iadrA 8 (.v 9) (.c (.v (.int .i64 0)))), nn (.t 167) (.load 1 false (.t 166)), nn (.t 168) (.iadrA 8 (.v 9) (.c (.v (.int .i64 1)))), nn (.t 169)
    (.load 1 false (.t 168)), nn (.t 170) (.iadrA 8 (.v 9) (.c (.v (.int .i64 2)))), nn (.t 171) (.load 1 false (.t 170)), nn (.t 172) (.iadrA 8 (.v 9)
    (.c (.v (.int .i64 3)))), nn (.t 173) (.load 1 false (.t 172)), mm 174 15, nn (.t 175) (.bin .add (.t 173) (.t 174)), nn (.t 176) (.iadrA 8 (.v 9)
    (.c (.v (.int .i64 4)))), nn (.t 177) (.load 1 false (.t 176)), nn (.t 178) (.iadrA 8 (.v 9) (.c (.v (.int .i64 5)))), nn (.t 179) (.load 1 false (.t
    178)), nn (.t 180) (.iadrA 8 (.v 9) (.c (.v (.int .i64 6)))), nn (.t 181) (.load 1 false (.t 180)), nn (.t 182) (.build (.arr .u32 8 [0, 0, 0, 0, 0,
    0, 0, 0]) [(0, .t 165), (1, .t 167), (2, .t 169), (3, .t 171), (4, .t 175), (5, .t 177), (6, .t 179), (7, .t 181)]), nn .no (.store 8 (.v 9) (.t
    182))]))))))).seq (PC.reg [mm 101 10, nn (.t 102) (.bin .add (.t 101) (.c (.v (.int .i64 1)))), ma 10 102]))
def lp127_2 : PC :=
  ((PC.reg [mm 19 6, nn (.t 20) (.bin .lss (.t 19) (.c (.v (.int .i64 64))))]).seq (PC.cond (.t 20) PC.skip (PC.exit 0))).seq ((PC.block 1 (((PC.reg [mm
    23 6, nn (.t 24) (.bin .lss (.t 23) (.c (.v (.int .i64 16))))]).seq (PC.cond (.t 24) ((PC.regD 0 [mm 25 6, mm 26 6, nn (.t 27) (.bin .mul (.c (.v
    (.int .i64 4))) (.t 26)), nn (.t 28) (.iadrA 64 (.v 3) (.t 27)), nn (.t 29) (.load 1 false (.t 28)), nn (.t 30) (.conv .u32 (.t 29)), nn (.t 31)
    (.bin .mul (.t 30) (.c (.v (.int .u32 16777216)))), mm 32 6, nn (.t 33) (.bin .mul (.c (.v (.int .i64 4))) (.t 32)), nn (.t 34) (.bin .add (.t 33)
    (.c (.v (.int .i64 1)))), nn (.t 35) (.iadrA 64 (.v 3) (.t 34)), nn (.t 36) (.load 1 false (.t 35)), nn (.t 37) (.conv .u32 (.t 36)), nn (.t 38)
    (.bin .mul (.t 37) (.c (.v (.int .u32 65536)))), nn (.t 39) (.bin .add (.t 31) (.t 38)), mm 40 6, nn (.t 41) (.bin .mul (.c (.v (.int .i64 4))) (.t
    40)), nn (.t 42) (.bin .add (.t 41) (.c (.v (.int .i64 2)))), nn (.t 43) (.iadrA 64 (.v 3) (.t 42)), nn (.t 44) (.load 1 false (.t 43)), nn (.t 45)
    (.conv .u32 (.t 44)), nn (.t 46) (.bin .mul (.t 45) (.c (.v (.int .u32 256)))), nn (.t 47) (.bin .add (.t 39) (.t 46)), mm 48 6, nn (.t 49) (.bin
    .mul (.c (.v (.int .i64 4))) (.t 48)), nn (.t 50) (.bin .add (.t 49) (.c (.v (.int .i64 3)))), nn (.t 51) (.iadrA 64 (.v 3) (.t 50)), nn (.t 52)
    (.load 1 false (.t 51)), nn (.t 53) (.conv .u32 (.t 52)), nn (.t 54) (.bin .add (.t 47) (.t 53)), nn (.t 55) (.iadrA 64 (.v 5) (.t 25)), nn .no
    (.store 1 (.t 55) (.t 54))] []).seq (PC.exit 1)) PC.skip)).seq ((PC.regD 0 [mm 56 6, nn (.t 57) (.bin .sub (.t 56) (.c (.v (.int .i64 15)))), nn (.t
    58) (.iadrA 64 (.v 5) (.t 57)), nn (.t 59) (.load 1 false (.t 58)), mm 60 6, nn (.t 61) (.bin .sub (.t 60) (.c (.v (.int .i64 2)))), nn (.t 62)
    (.iadrA 64 (.v 5) (.t 61)), nn (.t 63) (.load 1 false (.t 62)), ma 7 59, ma 8 63] []).seq ((PC.reg [mm 64 6, mm 65 8, nn (.t 66) (.call 132 [.t 65,
    .c (.v (.int .i64 17))]), mm 67 8, nn (.t 68) (.call 132 [.t 67, .c (.v (.int .i64 19))]), nn (.t 69) (.bin .xor (.t 66) (.t 68)), mm 70 8, nn (.t
    71) (.call 133 [.t 70, .c (.v (.int .i64 10))]), nn (.t 72) (.bin .xor (.t 69) (.t 71)), nn (.t 73) (.iadrA 64 (.v 5) (.t 64)), nn .no (.store 1 (.t
    73) (.t 72))]).seq (PC.regD 0 [mm 74 6, mm 75 6, nn (.t 76) (.iadrA 64 (.v 5) (.t 75)), nn (.t 77) (.load 1 false (.t 76)), mm 78 6, nn (.t 79) (.bin
    .sub (.t 78) (.c (.v (.int .i64 7)))), nn (.t 80) (.iadrA 64 (.v 5) (.t 79)), nn (.t 81) (.load 1 false (.t 80)), nn (.t 82) (.bin .add (.t 77) (.t
    81)), mm 83 7, nn (.t 84) (.call 132 [.t 83, .c (.v (.int .i64 7))]), mm 85 7, nn (.t 86) (.call 132 [.t 85, .c (.v (.int .i64 18))]), nn (.t 87)
    (.bin .xor (.t 84) (.t 86)), mm 88 7, nn (.t 89) (.call 133 [.t 88, .c (.v (.int .i64 3))]), nn (.t 90) (.bin .xor (.t 87) (.t 89)), nn (.t 91) (.bin
    .add (.t 82) (.t 90)), mm 92 6, nn (.t 93) (.bin .sub (.t 92) (.c (.v (.int .i64 16)))), nn (.t 94) (.iadrA 64 (.v 5) (.t 93)), nn (.t 95) (.load 1
    false (.t 94)), nn (.t 96) (.bin .add (.t 91) (.t 95)), nn (.t 97) (.iadrA 64 (.v 5) (.t 74)), nn .no (.store 1 (.t 97) (.t 96))] []))))).seq (PC.reg
    [mm 21 6, nn (.t 22) (.bin .add (.t 21) (.c (.v (.int .i64 1)))), ma 6 22]))
def pf127 : PF :=
  PF.mk 2 18 197 ((PC.reg [nn (.v 2) (.box (.v 0)), nn (.v 3) (.box (.v 1)), nn (.v 4) (.alloc (.arr .u32 8 [0, 0, 0, 0, 0, 0, 0, 0]))]).seq ((PC.reg [nn
    (.t 18) (.build (.arr .u32 64 [0, 0, 0, 0, 0, 0, 0, 0, 0, 0, 0, 0, 0, 0, 0, 0, 0, 0, 0, 0, 0, 0, 0, 0, 0, 0, 0, 0, 0, 0, 0, 0, 0, 0, 0, 0, 0, 0, 0,
    0, 0, 0, 0, 0, 0, 0, 0, 0, 0, 0, 0, 0, 0, 0, 0, 0, 0, 0, 0, 0, 0, 0, 0, 0]) []), nn (.v 5) (.alloc (.arr .u32 64 [0, 0, 0, 0, 0, 0, 0, 0, 0, 0, 0, 0,
    0, 0, 0, 0, 0, 0, 0, 0, 0, 0, 0, 0, 0, 0, 0, 0, 0, 0, 0, 0, 0, 0, 0, 0, 0, 0, 0, 0, 0, 0, 0, 0, 0, 0, 0, 0, 0, 0, 0, 0, 0, 0, 0, 0, 0, 0, 0, 0, 0, 0,
    0, 0])), nn .no (.store 64 (.v 5) (.t 18))]).seq (((PC.reg [nn (.v 6) (.mv true (.c (.v (.int .i64 0))))]).seq (PC.block 0 (PC.loop [2, 3, 4, 5, 6]
    lp127_2))).seq ((PC.reg [nn (.t 98) (.load 8 true (.v 2)), nn (.v 9) (.alloc (.arr .u32 8 [0, 0, 0, 0, 0, 0, 0, 0])), nn .no (.store 8 (.v 9) (.t
    98))]).seq (((PC.reg [nn (.v 10) (.mv true (.c (.v (.int .i64 0))))]).seq (PC.block 2 (PC.loop [2, 4, 5, 9, 10] lp127_1))).seq (((PC.reg [nn (.v 17)
    (.mv true (.c (.v (.int .i64 0))))]).seq (PC.block 4 (PC.loop [2, 4, 9, 17] lp127_0))).seq ((PC.reg [nn (.t 196) (.load 8 true (.v 9)), nn .no
    (.store 8 (.v 4) (.t 196))]).seq PC.ret))))))) [(.v 4, some (8, true))]
attribute [local irreducible] W Wops WopsD WL Wop WopD
variable {E : Env} {C : Abs.Spec} {l : List (Nat × Spec1)} {G : List (Nat × V)} {Q : R → List (Nat × V) → Prop}
set_option maxHeartbeats 1000000
theorem words127 {b : List Int} {z0 z2 : Bx} {QQ : Ex → St → Prop} (h79 : Abs.look l 132 = some SRo) (h80 : Abs.look l 133 = some SSh) (hb : Byt b) (hl : b.length = 64)
    (hx : ∀ ts, QQ (.exit 0) ⟨[none, none, some (.lp 0 []), some (.lp 1 []), some (.lp 2 []), some (.lp 3 []), some (.v (.int .i64 64)), none, none, none, none, none, none, none, none, none, none, none], ts, [z0, ⟨false, .arr .u8 64 b⟩, z2, ⟨false, .arr .u32 64 (sched b 64)⟩], G⟩) :
    ∀ (m i : Nat), i + m = 64 → WL (W E (specOf l) lp127_2) [2, 3, 4, 5, 6] QQ (m + 1) ⟨[none, none, some (.lp 0 []), some (.lp 1 []), some (.lp 2 []), some (.lp 3 []), some (.v (.int .i64 i)), none, none, none, none, none, none, none, none, none, none, none], [], [z0, ⟨false, .arr .u8 64 b⟩, z2, ⟨false, .arr .u32 64 (sched b i)⟩], G⟩ := by
  intro m
  induction m with
  | zero =>
    intro i hi
    obtain rfl : i = 64 := by omega
    refine WL_in lp127_2.eq_1 ?_
    simp (maxSteps := 1000000) (implicitDefEqProofs := false) only [go_sem, ↓reduceIte]
    exact hx _
  | succ m ih =>
    intro i hi
    have gi : i < 64 := by omega
    have hlt : (i : Int) < 64 := by omega
    have hws := sched_wd hb i
    have ew : IntKind.i64.wrap ((i : Int) + 1) = ((i + 1 : Nat) : Int) := by rw [w64 (by omega) (by omega)]; simp
    by_cases h16 : i < 16
    · have h16' : (i : Int) < 16 := by omega
      have e0 : IntKind.i64.wrap (4 * (i : Int)) = ((4 * i : Nat) : Int) := by rw [w64 (by omega) (by omega)]; simp
      have e1 : IntKind.i64.wrap (((4 * i : Nat) : Int) + 1) = ((4 * i + 1 : Nat) : Int) := by rw [w64 (by omega) (by omega)]; simp
      have e2 : IntKind.i64.wrap (((4 * i : Nat) : Int) + 2) = ((4 * i + 2 : Nat) : Int) := by rw [w64 (by omega) (by omega)]; simp
      have e3 : IntKind.i64.wrap (((4 * i : Nat) : Int) + 3) = ((4 * i + 3 : Nat) : Int) := by rw [w64 (by omega) (by omega)]; simp
      have g0 : 4 * i < 64 := by omega
      have g1 : 4 * i + 1 < 64 := by omega
      have g2 : 4 * i + 2 < 64 := by omega
      have g3 : 4 * i + 3 < 64 := by omega
      refine WL_in lp127_2.eq_1 ?_
      simp (maxSteps := 1000000) (implicitDefEqProofs := false) only [gi, hlt, h16', e0, e1, e2, e3, g0, g1, g2, g3, Int.toNat_natCast, go_sem, ↓reduceIte]
      refine ⟨⟨by omega, by omega⟩, ⟨by omega, by omega⟩, ⟨by omega, by omega⟩, ⟨by omega, by omega⟩, by omega, ?_⟩
      have hs : (sched b i).set i (IntKind.u32.wrap (IntKind.u32.wrap (IntKind.u32.wrap (IntKind.u32.wrap (IntKind.u32.wrap (b.getD (4 * i) 0) * 16777216) + IntKind.u32.wrap (IntKind.u32.wrap (b.getD (4 * i + 1) 0) * 65536)) + IntKind.u32.wrap (IntKind.u32.wrap (b.getD (4 * i + 2) 0) * 256)) + IntKind.u32.wrap (b.getD (4 * i + 3) 0))) = sched b (i + 1) := by
        have b0 := byt_getD hb (4 * i); have b1 := byt_getD hb (4 * i + 1); have b2 := byt_getD hb (4 * i + 2); have b3 := byt_getD hb (4 * i + 3)
        simp only [sched, if_pos h16, word4, wrap32]
        congr 1
        omega
      rw [hs, ew]
      exact ih (i + 1) (by omega)
    · have h16' : ¬ (i : Int) < 16 := by omega
      have e15 : IntKind.i64.wrap ((i : Int) - 15) = ((i - 15 : Nat) : Int) := by rw [w64 (by omega) (by omega)]; omega
      have e2 : IntKind.i64.wrap ((i : Int) - 2) = ((i - 2 : Nat) : Int) := by rw [w64 (by omega) (by omega)]; omega
      have e16 : IntKind.i64.wrap ((i : Int) - 16) = ((i - 16 : Nat) : Int) := by rw [w64 (by omega) (by omega)]; omega
      have e7 : IntKind.i64.wrap ((i : Int) - 7) = ((i - 7 : Nat) : Int) := by rw [w64 (by omega) (by omega)]; omega
      have g15 : i - 15 < 64 := by omega
      have g2 : i - 2 < 64 := by omega
      have g16 : i - 16 < 64 := by omega
      have g7 : i - 7 < 64 := by omega
      have hself : ∀ x, ((sched b i).set i x).getD i 0 = x := fun x => getD_set_self (by rw [sched_len]; exact gi)
      have hoth : ∀ x j, j ≠ i → ((sched b i).set i x).getD j 0 = (sched b i).getD j 0 := fun x j hj => by
        rw [List.getD_eq_getElem?_getD, List.getElem?_set_ne (fun e => hj e.symm), ← List.getD_eq_getElem?_getD]
      have o7 : ∀ x, ((sched b i).set i x).getD (i - 7) 0 = (sched b i).getD (i - 7) 0 := fun x => hoth x _ (by omega)
      have o16 : ∀ x, ((sched b i).set i x).getD (i - 16) 0 = (sched b i).getD (i - 16) 0 := fun x => hoth x _ (by omega)
      refine WL_in lp127_2.eq_1 ?_
      simp (maxSteps := 1000000) (implicitDefEqProofs := false) only [gi, hlt, h16', h79, h80, SRo_eq, SSh_eq, e15, e2, e16, e7, g15, g2, g16, g7, hself, o7, o16, Int.toNat_natCast, List.set_set, go_sem, ↓reduceIte]
      refine ⟨⟨by omega, by omega⟩, ⟨by omega, by omega⟩, wd_getD hws _, wd_getD hws _, wd_getD hws _, by omega, by omega, ⟨by omega, by omega⟩, wd_getD hws _, wd_getD hws _, wd_getD hws _, ⟨by omega, by omega⟩, by omega, ?_⟩
      have hs : (sched b i).set i (IntKind.u32.wrap (IntKind.u32.wrap (IntKind.u32.wrap (bXor .u32 (bXor .u32 (rot ((sched b i).getD (i - 2) 0) 17) (rot ((sched b i).getD (i - 2) 0) 19)) (shf ((sched b i).getD (i - 2) 0) 10) + (sched b i).getD (i - 7) 0) +
          bXor .u32 (bXor .u32 (rot ((sched b i).getD (i - 15) 0) 7) (rot ((sched b i).getD (i - 15) 0) 18)) (shf ((sched b i).getD (i - 15) 0) 3)) + (sched b i).getD (i - 16) 0)) = sched b (i + 1) := by
        simp only [sched, if_neg h16, nextW, sig0, sig1, wrap32]
        congr 1
        omega
      rw [hs, ew]
      exact ih (i + 1) (by omega)
theorem rounds127 {kt ws : List Int} {s0 : Regs} {z0 z1 z2 : Bx} {QQ : Ex → St → Prop} (h79 : Abs.look l 132 = some SRo) (hK : Abs.look E.tab 1 = some (.arr .u32 64 kt)) (hs : s0.ok)
    (hx : ∀ ts, QQ (.exit 2) ⟨[none, none, some (.lp 0 []), none, some (.lp 2 []), some (.lp 3 []), none, none, none, some (.lp 4 []), some (.v (.int .i64 64)), none, none, none, none, none, none, none], ts, [z0, z1, z2, ⟨false, .arr .u32 64 ws⟩, ⟨false, .arr .u32 8 (toL (rnds kt ws s0 64))⟩], G⟩) :
    ∀ (m i : Nat) (v : List Int), v = toL (rnds kt ws s0 i) → i + m = 64 → WL (W E (specOf l) lp127_1) [2, 4, 5, 9, 10] QQ (m + 1) ⟨[none, none, some (.lp 0 []), none, some (.lp 2 []), some (.lp 3 []), none, none, none, some (.lp 4 []), some (.v (.int .i64 i)), none, none, none, none, none, none, none], [], [z0, z1, z2, ⟨false, .arr .u32 64 ws⟩, ⟨false, .arr .u32 8 v⟩], G⟩ := by
  intro m
  induction m with
  | zero =>
    rintro i v rfl hi
    obtain rfl : i = 64 := by omega
    refine WL_in lp127_1.eq_1 ?_
    simp (maxSteps := 1000000) (implicitDefEqProofs := false) only [go_sem, ↓reduceIte]
    exact hx _
  | succ m ih =>
    rintro i v rfl hi
    have gi : i < 64 := by omega
    have hlt : (i : Int) < 64 := by omega
    obtain ⟨k1, k2, k3, k4, k5, k6, k7, k8⟩ := rnds_ok (k := kt) (w := ws) hs i
    have ew : IntKind.i64.wrap ((i : Int) + 1) = ((i + 1 : Nat) : Int) := by rw [w64 (by omega) (by omega)]; simp
    refine WL_in lp127_1.eq_1 ?_
    simp (maxSteps := 1000000) (implicitDefEqProofs := false) only [toL, h79, SRo_eq, hK, gi, hlt, k1, k5, ew, ch_eq k5 k6 k7, maj_eq k1 k2 k3, Int.toNat_natCast, go_sem, ↓reduceIte]
    refine ⟨by omega, by omega, ?_⟩
    have hh := ih (i + 1) _ rfl (by omega)
    simp only [toL, rnds, rnd, tee, you, big0, big1, cho, maj, wrap32, Int.emod_add_emod, Int.add_emod_emod] at hh ⊢
    exact hh
theorem adds127 {a b c d e f g h : Int} {s : List Int} {z1 z2 z3 : Bx} {QQ : Ex → St → Prop} (hl : s.length = 8)
    (hx : ∀ ts, QQ (.exit 4) ⟨[none, none, some (.lp 0 []), none, some (.lp 2 []), none, none, none, none, some (.lp 4 []), none, none, none, none, none, none, none, some (.v (.int .i64 8))], ts, [⟨false, .arr .u32 8 s⟩, z1, z2, z3, ⟨false, .arr .u32 8 [(s.getD 0 0 + a) % 4294967296, (s.getD 1 0 + b) % 4294967296, (s.getD 2 0 + c) % 4294967296, (s.getD 3 0 + d) % 4294967296, (s.getD 4 0 + e) % 4294967296, (s.getD 5 0 + f) % 4294967296, (s.getD 6 0 + g) % 4294967296, (s.getD 7 0 + h) % 4294967296]⟩], G⟩) :
    WL (W E C lp127_0) [2, 4, 9, 17] QQ 9 ⟨[none, none, some (.lp 0 []), none, some (.lp 2 []), none, none, none, none, some (.lp 4 []), none, none, none, none, none, none, none, some (.v (.int .i64 0))], [], [⟨false, .arr .u32 8 s⟩, z1, z2, z3, ⟨false, .arr .u32 8 [a, b, c, d, e, f, g, h]⟩], G⟩ := by
  obtain ⟨s0, s1, s2, s3, s4, s5, s6, s7, rfl⟩ : ∃ s0 s1 s2 s3 s4 s5 s6 s7, s = [s0, s1, s2, s3, s4, s5, s6, s7] := by
    match s, hl with
    | [s0, s1, s2, s3, s4, s5, s6, s7], _ => exact ⟨_, _, _, _, _, _, _, _, rfl⟩
  iterate 9
    refine WL_in lp127_0.eq_1 ?_
    simp (maxSteps := 1000000) (implicitDefEqProofs := false) (disch := omega) only [go_sem, ↓reduceIte, w64]
  simp only [wrap32, Int.add_comm a, Int.add_comm b, Int.add_comm c, Int.add_comm d, Int.add_comm e, Int.add_comm f, Int.add_comm g, Int.add_comm h]
  exact hx _
theorem ofL_ok {s : List Int} (h : ∀ x ∈ s, Wd x) : (ofL s).ok := ⟨wd_getD h _, wd_getD h _, wd_getD h _, wd_getD h _, wd_getD h _, wd_getD h _, wd_getD h _, wd_getD h _⟩
theorem toL_ofL {s : List Int} (h : s.length = 8) : toL (ofL s) = s := by
  match s, h with
  | [s0, s1, s2, s3, s4, s5, s6, s7], _ => rfl
theorem walk127 {kt s b : List Int} (h79 : Abs.look l 132 = some SRo) (h80 : Abs.look l 133 = some SSh) (hK : Abs.look E.tab 1 = some (.arr .u32 64 kt)) (hs : ∀ x ∈ s, Wd x) (hsl : s.length = 8) (hb : Byt b) (hl : b.length = 64)
    (h : Q (.v (.arr .u32 8 (block kt s b))) G) : Wf E (specOf l) pf127 [.arr .u32 8 s, .arr .u8 64 b] G Q := by
  simp (maxSteps := 1000000) (implicitDefEqProofs := false) only [pf127, go_sem, ↓reduceIte]
  refine ⟨65, ?_⟩
  simp (maxSteps := 1000000) (implicitDefEqProofs := false) only [go_sem, ↓reduceIte]
  refine words127 h79 h80 hb hl (fun ts => ?_) 64 0 (by omega)
  simp (maxSteps := 1000000) (implicitDefEqProofs := false) only [go_sem, ↓reduceIte]
  refine ⟨65, ?_⟩
  simp (maxSteps := 1000000) (implicitDefEqProofs := false) only [go_sem, ↓reduceIte]
  refine rounds127 (s0 := ofL s) h79 hK (ofL_ok hs) (fun ts => ?_) 64 0 s (toL_ofL hsl).symm (by omega)
  simp (maxSteps := 1000000) (implicitDefEqProofs := false) only [go_sem, ↓reduceIte]
  refine ⟨9, ?_⟩
  simp (maxSteps := 1000000) (implicitDefEqProofs := false) only [go_sem, ↓reduceIte]
  refine adds127 hsl (fun ts => ?_)
  simp (maxSteps := 1000000) (implicitDefEqProofs := false) only [go_sem, ↓reduceIte]
  exact h
end Go.Proofs.YtegamlopcdjiaaaDoor.Sha
