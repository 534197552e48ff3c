/- Laws over plain values, and what functions of the program hand back; no conditions. -/
import Derived.Test.YtegamlopcdjiaaaDoorShaB
namespace Go.Proofs.YtegamlopcdjiaaaDoor.Sha
open Go Go.Abs Go.Abs.Sha
set_option linter.unusedSimpArgs false
set_option linter.unusedVariables false
set_option maxRecDepth 100000
def pf123 : PF :=
  PF.mk 0 1 2 ((PC.reg [nn (.v 0) (.alloc (.arr .u32 8 [0, 0, 0, 0, 0, 0, 0, 0]))]).seq ((PC.reg [nn (.t 1) (.build (.arr .u32 8 [0, 0, 0, 0, 0, 0, 0,
    0]) [(0, .c (.v (.int .u32 1779033703))), (1, .c (.v (.int .u32 3144134277))), (2, .c (.v (.int .u32 1013904242))), (3, .c (.v (.int .u32
    2773480762))), (4, .c (.v (.int .u32 1359893119))), (5, .c (.v (.int .u32 2600822924))), (6, .c (.v (.int .u32 528734635))), (7, .c (.v (.int .u32
    1541459225)))]), nn .no (.store 8 (.v 0) (.t 1))]).seq PC.ret)) [(.v 0, some (8, true))]
def lp129_0 : PC :=
  ((PC.reg [mm 11 4, nn (.t 12) (.bin .geq (.t 11) (.c (.v (.int .i64 0))))]).seq (PC.cond (.t 12) PC.skip (PC.exit 0))).seq ((PC.block 1 (PC.reg [nn (.t
    15) (.mv true (.v 3)), mm 16 0, nn (.t 17) (.conv .u64 (.t 16)), nn (.t 18) (.bin .mul (.t 17) (.c (.v (.int .u64 8)))), mm 19 4, nn (.t 20) (.bin
    .mul (.c (.v (.int .i64 8))) (.t 19)), nn (.t 21) (.bin .shr (.t 18) (.t 20)), nn (.t 22) (.conv .u8 (.t 21)), nn (.t 23) (.buildS (some .u8) 1 (.int
    .u8 0) 1 [(0, .t 22)]), nn (.t 24) (.app (some .u8) 1 1 (.t 15) (.t 23)), ma 3 24])).seq (PC.reg [mm 13 4, nn (.t 14) (.bin .sub (.t 13) (.c (.v
    (.int .i64 1)))), ma 4 14]))
def pf129 : PF :=
  PF.mk 1 5 26 ((PC.reg [nn (.v 2) (.mv true (.c (.own .nils)))]).seq ((PC.reg [nn (.t 5) (.buildS (some .u8) 1 (.int .u8 0) 1 [(0, .c (.v (.int .u8
    128)))]), mm 6 0, nn (.t 7) (.bin .rem (.t 6) (.c (.v (.int .i64 64)))), nn (.t 8) (.bin .sub (.c (.v (.int .i64 119))) (.t 7)), nn (.t 9) (.bin .rem
    (.t 8) (.c (.v (.int .i64 64)))), nn (.t 10) (.appZ (some .u8) 1 1 (.int .u8 0) (.t 5) (.t 9)), ma 3 10]).seq (((PC.reg [nn (.v 4) (.mv true (.c (.v
    (.int .i64 7))))]).seq (PC.block 0 (PC.loop [0, 3, 4] lp129_0))).seq ((PC.reg [nn (.t 25) (.mv true (.v 3)), ma 2 25]).seq PC.ret)))) [(.v 2, none)]
def pf124 : PF :=
  PF.mk 1 4 15 ((PC.reg [nn (.v 2) (.mv true (.c (.own .nils)))]).seq ((PC.reg [mm 4 0, nn (.t 5) (.len (.t 4)), nn (.t 6) (.bin .add (.t 5) (.c (.v
    (.int .i64 128)))), nn (.t 7) (.mkS (some .u8) 1 1 (.int .u8 0) (.c (.v (.int .i64 0))) (.t 6)), ma 3 7]).seq ((PC.reg [nn (.t 8) (.mv true (.v 3)),
    mm 9 0, nn (.t 10) (.app (some .u8) 1 1 (.t 8) (.t 9)), mm 11 0, nn (.t 12) (.len (.t 11)), nn (.t 13) (.call 129 [.t 12]), nn (.t 14) (.app (some
    .u8) 1 1 (.t 10) (.t 13)), ma 2 14]).seq PC.ret))) [(.v 2, none)]
def lp126_0 : PC :=
  ((PC.reg [mm 10 3, nn (.t 11) (.len (.t 10)), nn (.t 12) (.bin .rem (.t 11) (.c (.v (.int .i64 64)))), nn (.t 13) (.bin .neq (.t 12) (.c (.v (.int .i64
    56))))]).seq (PC.cond (.t 13) PC.skip (PC.exit 0))).seq (PC.block 1 (PC.reg [nn (.t 14) (.mv true (.v 3)), nn (.t 15) (.buildS (some .u8) 1 (.int .u8
    0) 1 [(0, .c (.v (.int .u8 0)))]), nn (.t 16) (.app (some .u8) 1 1 (.t 14) (.t 15)), ma 3 16]))
def pf126 : PF :=
  PF.mk 1 5 47 ((PC.reg [nn (.v 2) (.mv true (.c (.own .nils)))]).seq ((PC.reg [nn (.t 5) (.buildS (some .u8) 1 (.int .u8 0) 0 []), mm 6 0, nn (.t 7)
    (.app (some .u8) 1 1 (.t 5) (.t 6)), nn (.t 8) (.buildS (some .u8) 1 (.int .u8 0) 1 [(0, .c (.v (.int .u8 128)))]), nn (.t 9) (.app (some .u8) 1 1
    (.t 7) (.t 8)), ma 3 9]).seq ((PC.block 0 (PC.loop [0, 3] lp126_0)).seq ((PC.reg [mm 17 0, nn (.t 18) (.len (.t 17)), nn (.t 19) (.conv .u64 (.t
    18)), nn (.t 20) (.bin .mul (.t 19) (.c (.v (.int .u64 8)))), ma 4 20]).seq ((PC.reg [nn (.t 21) (.mv true (.v 3)), mm 22 4, nn (.t 23) (.bin .shr
    (.t 22) (.c (.v (.int .u64 56)))), nn (.t 24) (.conv .u8 (.t 23)), mm 25 4, nn (.t 26) (.bin .shr (.t 25) (.c (.v (.int .u64 48)))), nn (.t 27)
    (.conv .u8 (.t 26)), mm 28 4, nn (.t 29) (.bin .shr (.t 28) (.c (.v (.int .u64 40)))), nn (.t 30) (.conv .u8 (.t 29)), mm 31 4, nn (.t 32) (.bin .shr
    (.t 31) (.c (.v (.int .u64 32)))), nn (.t 33) (.conv .u8 (.t 32)), mm 34 4, nn (.t 35) (.bin .shr (.t 34) (.c (.v (.int .u64 24)))), nn (.t 36)
    (.conv .u8 (.t 35)), mm 37 4, nn (.t 38) (.bin .shr (.t 37) (.c (.v (.int .u64 16)))), nn (.t 39) (.conv .u8 (.t 38)), mm 40 4, nn (.t 41) (.bin .shr
    (.t 40) (.c (.v (.int .u64 8)))), nn (.t 42) (.conv .u8 (.t 41)), mm 43 4, nn (.t 44) (.conv .u8 (.t 43)), nn (.t 45) (.buildS (some .u8) 1 (.int .u8
    0) 8 [(0, .t 24), (1, .t 27), (2, .t 30), (3, .t 33), (4, .t 36), (5, .t 39), (6, .t 42), (7, .t 44)]), nn (.t 46) (.app (some .u8) 1 1 (.t 21) (.t
    45)), ma 2 46]).seq PC.ret))))) [(.v 2, none)]
attribute [local irreducible] W Wops WopsD WL Wop WopD
variable {E : Env} {C : Abs.Spec} {l : List (Nat × Spec1)} {G : List (Nat × V)} {Q : R → List (Nat × V) → Prop}
set_option maxHeartbeats 1000000
def SSt : Spec1
  | [], G, Q => Q (.v (.arr .u32 8 start8)) G
  | _, _, _ => False
theorem SSt_eq {G : List (Nat × V)} {Q : R → List (Nat × V) → Prop} : SSt [] G Q = (Q (.v (.arr .u32 8 start8)) G) := rfl
def SEn : Spec1
  | [.int .i64 n], G, Q => (0 ≤ n ∧ n < 100000000000000) ∧ Q (.own (.sli .u8 (ending n.toNat))) G
  | _, _, _ => False
theorem SEn_eq {n} : SEn [.int .i64 n] G Q = ((0 ≤ n ∧ n < 100000000000000) ∧ Q (.own (.sli .u8 (ending n.toNat))) G) := rfl
def SFi : Spec1
  | [x], G, Q => ∃ b, (byV x = some b ∧ b.length < 100000000000000) ∧ Q (.own (.sli .u8 (fillB b))) G
  | _, _, _ => False
theorem SFi_eq {x} : SFi [x] G Q = (∃ b, (byV x = some b ∧ b.length < 100000000000000) ∧ Q (.own (.sli .u8 (fillB b))) G) := rfl
theorem walk123 (h : Q (.v (.arr .u32 8 start8)) G) : Wf E C pf123 [] G Q := by
  simp (maxSteps := 1000000) (implicitDefEqProofs := false) only [pf123, go_sem, ↓reduceIte]
  exact h
theorem walk129 {n : Nat} (hn : n < 100000000000000) (h : Q (.own (.sli .u8 (ending n))) G) : Wf E C pf129 [.int .i64 n] G Q := by
  have e1 : (n : Int).tmod 64 = ((n % 64 : Nat) : Int) := by rw [Int.tmod_eq_emod_of_nonneg (by omega)]; simp
  have e2 : IntKind.i64.wrap (119 - ((n % 64 : Nat) : Int)) = ((119 - n % 64 : Nat) : Int) := by rw [w64 (by omega) (by omega)]; omega
  have e3 : ((119 - n % 64 : Nat) : Int).tmod 64 = (((119 - n % 64) % 64 : Nat) : Int) := by rw [Int.tmod_eq_emod_of_nonneg (by omega)]; simp
  have l0 := lenB_eq (n := n) (by omega) (i := 0) (by omega)
  have l1 := lenB_eq (n := n) (by omega) (i := 1) (by omega)
  have l2 := lenB_eq (n := n) (by omega) (i := 2) (by omega)
  have l3 := lenB_eq (n := n) (by omega) (i := 3) (by omega)
  have l4 := lenB_eq (n := n) (by omega) (i := 4) (by omega)
  have l5 := lenB_eq (n := n) (by omega) (i := 5) (by omega)
  have l6 := lenB_eq (n := n) (by omega) (i := 6) (by omega)
  have l7 := lenB_eq (n := n) (by omega) (i := 7) (by omega)
  simp only [Nat.reduceMul] at l0 l1 l2 l3 l4 l5 l6 l7
  simp (maxSteps := 1000000) (implicitDefEqProofs := false) only [pf129, e1, e2, e3, go_sem, ↓reduceIte]
  have hd : ending n = 128 :: (List.replicate ((119 - n % 64) % 64) 0 ++ lens n) := rfl
  have hz : (((119 - n % 64) % 64 : Nat) : Int).toNat = (119 - n % 64) % 64 := Int.toNat_natCast _
  rw [hz]
  have hzl : (List.replicate ((119 - n % 64) % 64) (0 : Int)).length = (119 - n % 64) % 64 := List.length_replicate
  generalize hzs : List.replicate ((119 - n % 64) % 64) (0 : Int) = zs at *
  have hzb : zs.length < 64 := by omega
  refine ⟨⟨by omega, by omega⟩, 9, ?_⟩
  simp (maxSteps := 1000000) (implicitDefEqProofs := false) only [go_sem, ↓reduceIte]
  iterate 8
    refine WL_in lp129_0.eq_1 ?_
    simp (maxSteps := 1000000) (implicitDefEqProofs := false) (disch := omega) only [l0, l1, l2, l3, l4, l5, l6, l7, go_sem, ↓reduceIte, w64]
    refine ⟨by omega, ?_⟩
  refine WL_in lp129_0.eq_1 ?_
  simp (maxSteps := 1000000) (implicitDefEqProofs := false) (disch := omega) only [l0, l1, l2, l3, l4, l5, l6, l7, go_sem, ↓reduceIte, w64]
  rw [hd] at h
  simpa only [lens, List.append_assoc, List.cons_append, List.nil_append] using h
theorem walk124 {x : V} {b : List Int} (h76 : Abs.look l 129 = some SEn) (hx : byV x = some b) (hb : b.length < 100000000000000) (h : Q (.own (.sli .u8 (fillB b))) G) : Wf E (specOf l) pf124 [x] G Q := by
  have e1 : IntKind.i64.wrap ((b.length : Int) + 128) = ((b.length + 128 : Nat) : Int) := by rw [w64 (by omega) (by omega)]; simp
  have hl : (ending b.length).length = 9 + (119 - b.length % 64) % 64 := ending_len _
  rcases byV_cases hx with rfl | ⟨rfl, rfl⟩
  · simp (maxSteps := 1000000) (implicitDefEqProofs := false) only [pf124, h76, SEn_eq, e1, Int.toNat_natCast, go_sem, ↓reduceIte]
    refine ⟨⟨by omega, by omega⟩, by omega, ⟨by omega, by omega⟩, by omega, ?_⟩
    exact h
  · simp (maxSteps := 1000000) (implicitDefEqProofs := false) only [pf124, h76, SEn_eq, e1, Int.toNat_natCast, go_sem, ↓reduceIte]
    exact ⟨⟨by decide, by decide⟩, by decide, h⟩
theorem loop126 {x : V} {b : List Int} {QQ : Ex → St → Prop} (hb : b.length < 100000000000000)
    (hx : ∀ ts, QQ (.exit 0) ⟨[some (.v x), none, none, some (.own (.sli .u8 (b ++ 128 :: List.replicate ((119 - b.length % 64) % 64) 0))), none], ts, [], G⟩) :
    ∀ (m j : Nat), j + m = (119 - b.length % 64) % 64 → WL (W E C lp126_0) [0, 3] QQ (m + 1) ⟨[some (.v x), none, none, some (.own (.sli .u8 (b ++ 128 :: List.replicate j 0))), none], [], [], G⟩ := by
  intro m
  induction m with
  | zero =>
    intro j hj
    obtain rfl : j = (119 - b.length % 64) % 64 := by omega
    refine WL_in lp126_0.eq_1 ?_
    have e : (((b ++ 128 :: List.replicate ((119 - b.length % 64) % 64) 0).length : Nat) : Int).tmod 64 = 56 := by
      rw [Int.tmod_eq_emod_of_nonneg (by omega)]; simp only [List.length_append, List.length_cons, List.length_replicate]; omega
    generalize hc : b ++ 128 :: List.replicate ((119 - b.length % 64) % 64) 0 = c at *
    simp (maxSteps := 1000000) (implicitDefEqProofs := false) only [e, go_sem, ↓reduceIte]
    exact hx _
  | succ m ih =>
    intro j hj
    refine WL_in lp126_0.eq_1 ?_
    have e : (((b ++ 128 :: List.replicate j 0).length : Nat) : Int).tmod 64 ≠ 56 := by
      rw [Int.tmod_eq_emod_of_nonneg (by omega)]; simp only [List.length_append, List.length_cons, List.length_replicate]; omega
    have e2 : (b ++ 128 :: List.replicate j 0) ++ [(0 : Int)] = b ++ 128 :: List.replicate (j + 1) 0 := by
      rw [List.append_assoc, List.replicate_succ']; rfl
    have hh := ih (j + 1) (by omega)
    rw [← e2] at hh
    generalize hc : b ++ 128 :: List.replicate j 0 = c at *
    have hcl : c.length = b.length + (j + 1) := by rw [← hc]; simp
    simp (maxSteps := 1000000) (implicitDefEqProofs := false) only [e, go_sem, ↓reduceIte]
    exact ⟨by omega, hh⟩
theorem walk126 {x : V} {b : List Int} (hx : byV x = some b) (hb : b.length < 100000000000000) (h : Q (.own (.sli .u8 (fillB b))) G) : Wf E C pf126 [x] G Q := by
  have l0 := lenB_eq (n := b.length) (by omega) (i := 0) (by omega)
  have l1 := lenB_eq (n := b.length) (by omega) (i := 1) (by omega)
  have l2 := lenB_eq (n := b.length) (by omega) (i := 2) (by omega)
  have l3 := lenB_eq (n := b.length) (by omega) (i := 3) (by omega)
  have l4 := lenB_eq (n := b.length) (by omega) (i := 4) (by omega)
  have l5 := lenB_eq (n := b.length) (by omega) (i := 5) (by omega)
  have l6 := lenB_eq (n := b.length) (by omega) (i := 6) (by omega)
  have l7 := lenB_eq (n := b.length) (by omega) (i := 7) (by omega)
  simp only [Nat.reduceMul] at l0 l1 l2 l3 l4 l5 l6 l7
  rw [show (2 : Int) ^ min 0 64 = 1 from rfl, Int.fdiv_one] at l0
  rcases byV_cases hx with rfl | ⟨rfl, rfl⟩
  rotate_left
  · simp (maxSteps := 1000000) (implicitDefEqProofs := false) only [pf126, go_sem, ↓reduceIte]
    refine ⟨56, ?_⟩
    simp (maxSteps := 1000000) (implicitDefEqProofs := false) only [go_sem, ↓reduceIte]
    refine loop126 (b := []) (by decide) (fun ts => ?_) 55 0 (by decide)
    simp (maxSteps := 1000000) (implicitDefEqProofs := false) only [go_sem, ↓reduceIte]
    exact h
  simp (maxSteps := 1000000) (implicitDefEqProofs := false) only [pf126, go_sem, ↓reduceIte]
  refine ⟨by omega, by omega, (119 - b.length % 64) % 64 + 1, ?_⟩
  simp (maxSteps := 1000000) (implicitDefEqProofs := false) only [go_sem, ↓reduceIte]
  refine loop126 hb (fun ts => ?_) ((119 - b.length % 64) % 64) 0 (by omega)
  have hzl : (List.replicate ((119 - b.length % 64) % 64) (0 : Int)).length = (119 - b.length % 64) % 64 := List.length_replicate
  have hd : fillB b = b ++ 128 :: (List.replicate ((119 - b.length % 64) % 64) 0 ++ lens b.length) := rfl
  generalize hzs : List.replicate ((119 - b.length % 64) % 64) (0 : Int) = zs at *
  have hzb : zs.length < 64 := by omega
  simp (maxSteps := 1000000) (implicitDefEqProofs := false) only [l0, l1, l2, l3, l4, l5, l6, l7, go_sem, ↓reduceIte]
  refine ⟨by omega, ?_⟩
  rw [hd] at h
  simpa only [lens, List.append_assoc, List.cons_append, List.nil_append] using h
end Go.Proofs.YtegamlopcdjiaaaDoor.Sha
