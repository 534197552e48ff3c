/- Laws over plain values, and what functions of the program hand back; no conditions. -/
import Derived.Test.YtegamlopcdjiaaaDoorUSha9
namespace Go.Proofs.YtegamlopcdjiaaaDoor.Sha
open Go Go.Abs Go.Abs.Sha
set_option linter.unusedSimpArgs false
set_option linter.unusedVariables false
set_option maxRecDepth 100000
def pf108 : PF :=
  PF.mk 2 7 21 ((PC.reg [nn (.v 4) (.alloc (.arr .u8 32 [0, 0, 0, 0, 0, 0, 0, 0, 0, 0, 0, 0, 0, 0, 0, 0, 0, 0, 0, 0, 0, 0, 0, 0, 0, 0, 0, 0, 0, 0, 0,
    0]))]).seq ((PC.reg [mm 7 0, nn (.t 8) (.call 116 [.t 7]), nn (.v 5) (.alloc (.arr .u8 64 [0, 0, 0, 0, 0, 0, 0, 0, 0, 0, 0, 0, 0, 0, 0, 0, 0, 0, 0,
    0, 0, 0, 0, 0, 0, 0, 0, 0, 0, 0, 0, 0, 0, 0, 0, 0, 0, 0, 0, 0, 0, 0, 0, 0, 0, 0, 0, 0, 0, 0, 0, 0, 0, 0, 0, 0, 0, 0, 0, 0, 0, 0, 0, 0])), nn .no
    (.store 64 (.v 5) (.t 8))]).seq ((PC.reg [nn (.t 9) (.load 64 true (.v 5)), nn (.t 10) (.call 117 [.t 9, .c (.v (.int .u8 54))]), nn (.t 11) (.buildS
    none 1 .nils 1 [(0, .t 10)]), mm 12 1, nn (.t 13) (.buildS none 1 .nils 2 [(0, .t 11), (1, .t 12)]), nn (.t 14) (.call 109 [.t 13]), nn (.t 15)
    (.call 115 [.t 14]), nn (.v 6) (.alloc (.arr .u8 32 [0, 0, 0, 0, 0, 0, 0, 0, 0, 0, 0, 0, 0, 0, 0, 0, 0, 0, 0, 0, 0, 0, 0, 0, 0, 0, 0, 0, 0, 0, 0,
    0])), nn .no (.store 32 (.v 6) (.t 15))]).seq ((PC.regD 0 [nn (.t 16) (.load 64 true (.v 5)), nn (.t 17) (.call 117 [.t 16, .c (.v (.int .u8 92))]),
    nn (.t 18) (.slcA 32 false (.v 6) none none none), nn (.t 19) (.buildS none 1 .nils 2 [(0, .t 17), (1, .t 18)]), nn (.t 20) (.call 115 [.t 19]), nn
    .no (.store 32 (.v 4) (.t 20))] [(0, 2), (1, 2)]).seq PC.ret)))) [(.v 4, some (32, true))]
def lp111_0 : PC :=
  ((PC.reg [mm 37 10, nn (.t 38) (.bin .lss (.t 37) (.c (.v (.int .i64 32))))]).seq (PC.cond (.t 38) PC.skip (PC.exit 2))).seq ((PC.block 3 (PC.reg [nn
    (.t 41) (.mv true (.v 7)), mm 42 10, nn (.t 43) (.iadrA 32 (.v 9) (.t 42)), nn (.t 44) (.load 1 false (.t 43)), nn (.t 45) (.buildS (some .u8) 1
    (.int .u8 0) 1 [(0, .t 44)]), nn (.t 46) (.app (some .u8) 1 1 (.t 41) (.t 45)), ma 7 46])).seq (PC.reg [mm 39 10, nn (.t 40) (.bin .add (.t 39) (.c
    (.v (.int .i64 1)))), ma 10 40]))
def lp111_1 : PC :=
  ((PC.reg [mm 15 8, nn (.t 16) (.bin .lss (.t 15) (.c (.v (.int .i64 64))))]).seq (PC.cond (.t 16) PC.skip (PC.exit 0))).seq ((PC.block 1 ((PC.reg [nn
    (.t 19) (.mv true (.v 6)), mm 20 8, nn (.t 21) (.iadrA 64 (.v 5) (.t 20)), nn (.t 22) (.load 1 false (.t 21)), nn (.t 23) (.bin .xor (.t 22) (.c (.v
    (.int .u8 54)))), nn (.t 24) (.buildS (some .u8) 1 (.int .u8 0) 1 [(0, .t 23)]), nn (.t 25) (.app (some .u8) 1 1 (.t 19) (.t 24)), ma 6 25]).seq
    (PC.reg [nn (.t 26) (.mv true (.v 7)), mm 27 8, nn (.t 28) (.iadrA 64 (.v 5) (.t 27)), nn (.t 29) (.load 1 false (.t 28)), nn (.t 30) (.bin .xor (.t
    29) (.c (.v (.int .u8 92)))), nn (.t 31) (.buildS (some .u8) 1 (.int .u8 0) 1 [(0, .t 30)]), nn (.t 32) (.app (some .u8) 1 1 (.t 26) (.t 31)), ma 7
    32]))).seq (PC.reg [mm 17 8, nn (.t 18) (.bin .add (.t 17) (.c (.v (.int .i64 1)))), ma 8 18]))
def pf111 : PF :=
  PF.mk 2 11 49 ((PC.reg [nn (.v 4) (.alloc (.arr .u8 32 [0, 0, 0, 0, 0, 0, 0, 0, 0, 0, 0, 0, 0, 0, 0, 0, 0, 0, 0, 0, 0, 0, 0, 0, 0, 0, 0, 0, 0, 0, 0,
    0]))]).seq ((PC.reg [mm 11 0, nn (.t 12) (.call 120 [.t 11]), nn (.v 5) (.alloc (.arr .u8 64 [0, 0, 0, 0, 0, 0, 0, 0, 0, 0, 0, 0, 0, 0, 0, 0, 0, 0,
    0, 0, 0, 0, 0, 0, 0, 0, 0, 0, 0, 0, 0, 0, 0, 0, 0, 0, 0, 0, 0, 0, 0, 0, 0, 0, 0, 0, 0, 0, 0, 0, 0, 0, 0, 0, 0, 0, 0, 0, 0, 0, 0, 0, 0, 0])), nn .no
    (.store 64 (.v 5) (.t 12))]).seq ((PC.reg [nn (.t 13) (.buildS (some .u8) 1 (.int .u8 0) 0 []), nn (.t 14) (.buildS (some .u8) 1 (.int .u8 0) 0 []),
    ma 6 13, ma 7 14]).seq (((PC.reg [nn (.v 8) (.mv true (.c (.v (.int .i64 0))))]).seq (PC.block 0 (PC.loop [1, 4, 5, 6, 7, 8] lp111_1))).seq ((PC.reg
    [nn (.t 33) (.mv true (.v 6)), mm 34 1, nn (.t 35) (.app (some .u8) 1 1 (.t 33) (.t 34)), nn (.t 36) (.call 119 [.t 35]), nn (.v 9) (.alloc (.arr .u8
    32 [0, 0, 0, 0, 0, 0, 0, 0, 0, 0, 0, 0, 0, 0, 0, 0, 0, 0, 0, 0, 0, 0, 0, 0, 0, 0, 0, 0, 0, 0, 0, 0])), nn .no (.store 32 (.v 9) (.t 36))]).seq
    (((PC.reg [nn (.v 10) (.mv true (.c (.v (.int .i64 0))))]).seq (PC.block 2 (PC.loop [4, 7, 9, 10] lp111_0))).seq ((PC.reg [mm 47 7, nn (.t 48) (.call
    119 [.t 47]), nn .no (.store 32 (.v 4) (.t 48))]).seq PC.ret))))))) [(.v 4, some (32, true))]
attribute [local irreducible] W Wops WopsD WL Wop WopD
variable {E : Env} {C : Abs.Spec} {l : List (Nat × Spec1)} {G : List (Nat × V)} {Q : R → List (Nat × V) → Prop}
set_option maxHeartbeats 1000000
def SMa (kt : List Int) : Spec1
  | [x, y], G, Q => ∃ b c r, (byV x = some b ∧ Byt b ∧ b.length < 10000000000000 ∧ rowV y = some r ∧ r.length < 100000000000 ∧ catL r = some c ∧ Byt c ∧ c.length < 10000000000000) ∧ Q (.v (.arr .u8 32 (macB kt b c))) G
  | _, _, _ => False
theorem SMa_eq {kt x y} : SMa kt [x, y] G Q = (∃ b c r, (byV x = some b ∧ Byt b ∧ b.length < 10000000000000 ∧ rowV y = some r ∧ r.length < 100000000000 ∧ catL r = some c ∧ Byt c ∧ c.length < 10000000000000) ∧ Q (.v (.arr .u8 32 (macB kt b c))) G) := rfl
def SMr (kt : List Int) : Spec1
  | [x, y], G, Q => ∃ b c, (byV x = some b ∧ Byt b ∧ b.length < 10000000000000 ∧ byV y = some c ∧ Byt c ∧ c.length < 10000000000000) ∧ Q (.v (.arr .u8 32 (macB kt b c))) G
  | _, _, _ => False
theorem SMr_eq {kt x y} : SMr kt [x, y] G Q = (∃ b c, (byV x = some b ∧ Byt b ∧ b.length < 10000000000000 ∧ byV y = some c ∧ Byt c ∧ c.length < 10000000000000) ∧ Q (.v (.arr .u8 32 (macB kt b c))) G) := rfl
theorem walk108 {kt b c : List Int} {r : List V} {x y : V} (h64 : Abs.look l 115 = some (SOf kt)) (h65 : Abs.look l 116 = some (SBl kt)) (h66 : Abs.look l 117 = some STd) (h56 : Abs.look l 109 = some SCc)
    (hx : byV x = some b) (hby : Byt b) (hb : b.length < 10000000000000) (hy : rowV y = some r) (hr : r.length < 100000000000) (hc : catL r = some c) (hcy : Byt c) (hcl : c.length < 10000000000000) (h : Q (.v (.arr .u8 32 (macB kt b c))) G) : Wf E (specOf l) pf108 [x, y] G Q := by
  have hk := keyB_len kt b
  have hkt : ((sumB kt (turnB (keyB kt b) 54 ++ c)).take 32) = sumB kt (turnB (keyB kt b) 54 ++ c) := List.take_of_length_le (by rw [sumB_len]; omega)
  have htl : ∀ z, (turnB (keyB kt b) z).length = 64 := fun z => by rw [turnB_len, hk]
  have hcat : catL ([V.sli .u8 (turnB (keyB kt b) 54)] ++ r) = some (turnB (keyB kt b) 54 ++ c) := catL_mk rfl hc
  have hcat2 : partsV (.sle 1 [V.sli .u8 (turnB (keyB kt b) 92), V.sli .u8 (sumB kt (turnB (keyB kt b) 54 ++ c))]) = some (turnB (keyB kt b) 92 ++ sumB kt (turnB (keyB kt b) 54 ++ c)) := by simp [partsV, catL, byV]
  have hp : catP [.sle 1 [V.sli .u8 (turnB (keyB kt b) 54)], y] = some ([V.sli .u8 (turnB (keyB kt b) 54)] ++ r) := by
    have := catP_mk (x := .sle 1 [V.sli .u8 (turnB (keyB kt b) 54)]) rfl (catP_mk hy (show catP [] = some [] from rfl))
    simpa using this
  rcases byV_cases hx with rfl | ⟨rfl, rfl⟩ <;> rcases rowV_cases hy with rfl | ⟨rfl, rfl⟩
  all_goals
    simp (maxSteps := 1000000) (implicitDefEqProofs := false) only [pf108, h65, SBl_eq, h66, STd_eq, h56, SCc_eq, h64, SOf_eq, go_sem, ↓reduceIte]
    refine ⟨_, ⟨rfl, hby, hb⟩, hk, _, ⟨hp, by simp, by simp; try omega⟩, _, ⟨hcat, by simp; try omega, byt_app (byt_turn _ _) hcy, by rw [List.length_append, htl]; omega⟩, ?_⟩
    simp (maxSteps := 1000000) (implicitDefEqProofs := false) only [hkt, List.drop_zero, go_sem, ↓reduceIte]
    refine ⟨hk, _, ⟨hcat2, byt_app (byt_turn _ _) (byt_sum _ _), by rw [List.length_append, htl, sumB_len]; omega⟩, ?_⟩
    exact h
theorem pads111 {y : V} {b : List Int} {z0 : Bx} {QQ : Ex → St → Prop} (hl : b.length = 64)
    (hx : ∀ ts, QQ (.exit 0) ⟨[none, some (.v y), none, none, some (.lp 0 []), some (.lp 1 []), some (.own (.sli .u8 (turnB b 54))), some (.own (.sli .u8 (turnB b 92))), some (.v (.int .i64 64)), none, none], ts, [z0, ⟨false, .arr .u8 64 b⟩], G⟩) :
    ∀ (m i : Nat), i + m = 64 → WL (W E C lp111_1) [1, 4, 5, 6, 7, 8] QQ (m + 1) ⟨[none, some (.v y), none, none, some (.lp 0 []), some (.lp 1 []), some (.own (.sli .u8 ((turnB b 54).take i))), some (.own (.sli .u8 ((turnB b 92).take i))), some (.v (.int .i64 i)), none, none], [], [z0, ⟨false, .arr .u8 64 b⟩], G⟩ := by
  intro m
  induction m with
  | zero =>
    intro i hi
    obtain rfl : i = 64 := by omega
    rw [List.take_of_length_le (by rw [turnB_len]; omega), List.take_of_length_le (by rw [turnB_len]; omega)]
    refine WL_in lp111_1.eq_1 ?_
    simp (maxSteps := 1000000) (implicitDefEqProofs := false) only [go_sem, ↓reduceIte]
    exact hx _
  | succ m ih =>
    intro i hi
    have hi64 : i < 64 := by omega
    have hlt : (i : Int) < 64 := by omega
    have ew : IntKind.i64.wrap ((i : Int) + 1) = ((i + 1 : Nat) : Int) := by rw [w64 (by omega) (by omega)]; simp
    have ihh := ih (i + 1) (by omega)
    have s1 := snoc_step (f := fun x => bXor .u8 x 54) (b := b) (i := i) (by omega)
    have s2 := snoc_step (f := fun x => bXor .u8 x 92) (b := b) (i := i) (by omega)
    have l1 : ((turnB b 54).take i).length = i := by rw [List.length_take, turnB_len]; omega
    have l2 : ((turnB b 92).take i).length = i := by rw [List.length_take, turnB_len]; omega
    unfold turnB at ihh l1 l2 ⊢
    rw [← s1, ← s2] at ihh
    generalize (b.map fun x => bXor .u8 x 54).take i = u1 at *
    generalize (b.map fun x => bXor .u8 x 92).take i = u2 at *
    refine WL_in lp111_1.eq_1 ?_
    simp (maxSteps := 1000000) (implicitDefEqProofs := false) only [hlt, hi64, ew, Int.toNat_natCast, go_sem, ↓reduceIte]
    exact ⟨by omega, by omega, by omega, by omega, ihh⟩
theorem tail111 {hh p : List Int} {z0 z1 : Bx} {QQ : Ex → St → Prop} (hl : hh.length = 32) (hp : p.length = 64)
    (hx : ∀ ts, QQ (.exit 2) ⟨[none, none, none, none, some (.lp 0 []), none, none, some (.own (.sli .u8 (p ++ hh))), none, some (.lp 2 []), some (.v (.int .i64 32))], ts, [z0, z1, ⟨false, .arr .u8 32 hh⟩], G⟩) :
    ∀ (m i : Nat) (u : List Int), u = p ++ hh.take i → i + m = 32 → WL (W E C lp111_0) [4, 7, 9, 10] QQ (m + 1) ⟨[none, none, none, none, some (.lp 0 []), none, none, some (.own (.sli .u8 u)), none, some (.lp 2 []), some (.v (.int .i64 i))], [], [z0, z1, ⟨false, .arr .u8 32 hh⟩], G⟩ := by
  intro m
  induction m with
  | zero =>
    rintro i u rfl hi
    obtain rfl : i = 32 := by omega
    rw [List.take_of_length_le (by omega)]
    refine WL_in lp111_0.eq_1 ?_
    simp (maxSteps := 1000000) (implicitDefEqProofs := false) only [go_sem, ↓reduceIte]
    exact hx _
  | succ m ih =>
    rintro i u rfl hi
    have hi32 : i < 32 := by omega
    have hlt : (i : Int) < 32 := by omega
    have ew : IntKind.i64.wrap ((i : Int) + 1) = ((i + 1 : Nat) : Int) := by rw [w64 (by omega) (by omega)]; simp
    have ihh := ih (i + 1) _ rfl (by omega)
    have s1 : p ++ hh.take (i + 1) = (p ++ hh.take i) ++ [hh.getD i 0] := by rw [List.append_assoc, snoc_step' (by omega)]
    have l1 : (p ++ hh.take i).length = 64 + i := by rw [List.length_append, List.length_take]; omega
    rw [s1] at ihh
    generalize p ++ hh.take i = u at *
    refine WL_in lp111_0.eq_1 ?_
    simp (maxSteps := 1000000) (implicitDefEqProofs := false) only [hlt, hi32, ew, Int.toNat_natCast, go_sem, ↓reduceIte]
    exact ⟨by omega, by omega, ihh⟩
theorem walk111 {kt b c : List Int} {x y : V} (h69 : Abs.look l 119 = some (SRf kt)) (h70 : Abs.look l 120 = some (SBl kt))
    (hx : byV x = some b) (hby : Byt b) (hb : b.length < 10000000000000) (hy : byV y = some c) (hcy : Byt c) (hcl : c.length < 10000000000000) (h : Q (.v (.arr .u8 32 (macB kt b c))) G) : Wf E (specOf l) pf111 [x, y] G Q := by
  have hk := keyB_len kt b
  have htl : ∀ z, (turnB (keyB kt b) z).length = 64 := fun z => by rw [turnB_len, hk]
  rcases byV_cases hx with rfl | ⟨rfl, rfl⟩ <;> rcases byV_cases hy with rfl | ⟨rfl, rfl⟩
  all_goals
    simp (maxSteps := 1000000) (implicitDefEqProofs := false) only [pf111, h70, SBl_eq, go_sem, ↓reduceIte]
    refine ⟨_, ⟨rfl, hby, hb⟩, 65, ?_⟩
    simp (maxSteps := 1000000) (implicitDefEqProofs := false) only [go_sem, ↓reduceIte]
    refine pads111 hk (fun ts => ?_) 64 0 (by omega)
    simp (maxSteps := 1000000) (implicitDefEqProofs := false) only [h69, SRf_eq, htl, go_sem, ↓reduceIte]
    try refine And.intro (by omega) ?_
    refine ⟨turnB (keyB kt _) 54 ++ _, ⟨by first | exact byV_u8 _ | (rw [List.append_nil]; exact byV_u8 _), byt_app (byt_turn _ _) hcy, by rw [List.length_append, htl]; omega⟩, 33, ?_⟩
    simp (maxSteps := 1000000) (implicitDefEqProofs := false) only [go_sem, ↓reduceIte]
    refine tail111 (sumB_len _ _) (htl 92) (fun ts => ?_) 32 0 _ (by simp) (by omega)
    simp (maxSteps := 1000000) (implicitDefEqProofs := false) only [h69, SRf_eq, htl, go_sem, ↓reduceIte]
    refine ⟨_, ⟨rfl, byt_app (byt_turn _ _) (byt_sum _ _), by rw [List.length_append, htl, sumB_len]; omega⟩, ?_⟩
    first | exact h | (unfold macB at h; rw [List.append_nil] at h; exact h)
end Go.Proofs.YtegamlopcdjiaaaDoor.Sha
