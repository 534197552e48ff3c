/- Laws over plain values, and what functions of the program hand back; no conditions. -/
import Derived.Test.YtegamlopcdjiaaaDoorUSha8
namespace Go.Proofs.YtegamlopcdjiaaaDoor.Sha
open Go Go.Abs Go.Abs.Sha
set_option linter.unusedSimpArgs false
set_option linter.unusedVariables false
set_option maxRecDepth 100000
def pf116 : PF :=
  PF.mk 1 5 16 ((PC.reg [nn (.v 2) (.alloc (.arr .u8 64 [0, 0, 0, 0, 0, 0, 0, 0, 0, 0, 0, 0, 0, 0, 0, 0, 0, 0, 0, 0, 0, 0, 0, 0, 0, 0, 0, 0, 0, 0, 0, 0,
    0, 0, 0, 0, 0, 0, 0, 0, 0, 0, 0, 0, 0, 0, 0, 0, 0, 0, 0, 0, 0, 0, 0, 0, 0, 0, 0, 0, 0, 0, 0, 0]))]).seq ((PC.reg [nn (.v 3) (.alloc (.arr .u8 64 [0,
    0, 0, 0, 0, 0, 0, 0, 0, 0, 0, 0, 0, 0, 0, 0, 0, 0, 0, 0, 0, 0, 0, 0, 0, 0, 0, 0, 0, 0, 0, 0, 0, 0, 0, 0, 0, 0, 0, 0, 0, 0, 0, 0, 0, 0, 0, 0, 0, 0, 0,
    0, 0, 0, 0, 0, 0, 0, 0, 0, 0, 0, 0, 0]))]).seq (((PC.reg [mm 5 0, nn (.t 6) (.len (.t 5)), nn (.t 7) (.bin .gtr (.t 6) (.c (.v (.int .i64
    64))))]).seq (PC.cond (.t 7) ((PC.reg [mm 8 0, nn (.t 9) (.buildS none 1 .nils 1 [(0, .t 8)]), nn (.t 10) (.call 115 [.t 9]), nn (.v 4) (.alloc (.arr
    .u8 32 [0, 0, 0, 0, 0, 0, 0, 0, 0, 0, 0, 0, 0, 0, 0, 0, 0, 0, 0, 0, 0, 0, 0, 0, 0, 0, 0, 0, 0, 0, 0, 0])), nn .no (.store 32 (.v 4) (.t 10))]).seq
    (PC.reg [nn (.t 11) (.slcA 32 false (.v 4) none none none), ma 0 11])) PC.skip)).seq ((PC.reg [nn (.t 12) (.slcA 64 true (.v 3) none none none), mm
    13 0, nn (.t 14) (.copy (.t 12) (.t 13))]).seq ((PC.reg [nn (.t 15) (.load 64 true (.v 3)), nn .no (.store 64 (.v 2) (.t 15))]).seq PC.ret))))) [(.v
    2, some (64, true))]
def lp117_0 : PC :=
  (PC.reg [nn (.t 7) (.bin .lss (.v 6) (.c (.v (.int .i64 64))))]).seq ((PC.cond (.t 7) PC.skip (PC.exit 0)).seq ((PC.block 1 ((PC.reg [nn (.t 8) (.mv
    true (.v 6)), ma 5 8]).seq (PC.reg [mm 9 5, nn (.t 10) (.iadrA 64 (.v 2) (.t 9)), nn (.t 11) (.load 1 false (.t 10)), mm 12 1, nn (.t 13) (.bin .xor
    (.t 11) (.t 12)), nn (.t 14) (.iadrA 64 (.v 2) (.t 9)), nn .no (.store 1 (.t 14) (.t 13))]))).seq (PC.reg [nn (.t 15) (.bin .add (.v 6) (.c (.v (.int
    .i64 1)))), nn (.v 6) (.mv false (.t 15))])))
def pf117 : PF :=
  PF.mk 2 7 17 ((PC.reg [nn (.v 2) (.box (.v 0)), nn (.v 4) (.mv true (.c (.own .nils)))]).seq (((PC.reg [nn (.v 6) (.mv false (.c (.v (.int .i64
    0))))]).seq (PC.block 0 (PC.loop [1, 2, 6] lp117_0))).seq ((PC.reg [nn (.t 16) (.slcA 64 false (.v 2) none none none), ma 4 16]).seq PC.ret))) [(.v
    4, none)]
def lp86_0 : PC :=
  (PC.reg [nn (.t 10) (.bin .lss (.v 9) (.c (.v (.int .i64 32))))]).seq ((PC.cond (.t 10) PC.skip (PC.exit 0)).seq ((PC.block 1 ((PC.reg [mm 11 9, nn (.t
    12) (.idxA 32 (.v 8) (.v 9)), ma 6 11, ma 7 12]).seq (PC.reg [mm 13 5, mm 14 7, mm 15 6, nn (.t 16) (.iadrA 32 (.v 3) (.t 15)), nn (.t 17) (.load 1
    false (.t 16)), nn (.t 18) (.bin .xor (.t 14) (.t 17)), nn (.t 19) (.bin .or (.t 13) (.t 18)), ma 5 19]))).seq (PC.reg [nn (.t 20) (.bin .add (.v 9)
    (.c (.v (.int .i64 1)))), nn (.v 9) (.mv false (.t 20))])))
def pf86 : PF :=
  PF.mk 2 10 23 ((PC.reg [nn (.v 2) (.box (.v 0)), nn (.v 3) (.box (.v 1)), nn (.v 4) (.mv true (.c (.v (.bool false))))]).seq ((PC.reg [nn (.v 5) (.mv
    true (.c (.v (.int .u8 0))))]).seq (((PC.reg [nn (.v 8) (.load 32 true (.v 2)), nn (.v 9) (.mv false (.c (.v (.int .i64 0))))]).seq (PC.block 0
    (PC.loop [3, 5, 8, 9] lp86_0))).seq ((PC.reg [mm 21 5, nn (.t 22) (.bin .eql (.t 21) (.c (.v (.int .u8 0)))), ma 4 22]).seq PC.ret)))) [(.v 4, none)]
def lp120_0 : PC :=
  ((PC.reg [mm 23 6, mm 24 0, nn (.t 25) (.len (.t 24)), nn (.t 26) (.bin .lss (.t 23) (.t 25))]).seq (PC.cond (.t 26) PC.skip (PC.exit 2))).seq
    ((PC.block 3 (PC.reg [mm 29 6, mm 30 0, mm 31 6, nn (.t 32) (.iadrS 1 (.t 30) (.t 31)), nn (.t 33) (.load 1 false (.t 32)), nn (.t 34) (.iadrA 64 (.v
    3) (.t 29)), nn .no (.store 1 (.t 34) (.t 33))])).seq (PC.reg [mm 27 6, nn (.t 28) (.bin .add (.t 27) (.c (.v (.int .i64 1)))), ma 6 28]))
def lp120_1 : PC :=
  ((PC.reg [mm 13 5, nn (.t 14) (.bin .lss (.t 13) (.c (.v (.int .i64 32))))]).seq (PC.cond (.t 14) PC.skip (PC.exit 0))).seq ((PC.block 1 (PC.reg [mm 17
    5, mm 18 5, nn (.t 19) (.iadrA 32 (.v 4) (.t 18)), nn (.t 20) (.load 1 false (.t 19)), nn (.t 21) (.iadrA 64 (.v 3) (.t 17)), nn .no (.store 1 (.t
    21) (.t 20))])).seq (PC.reg [mm 15 5, nn (.t 16) (.bin .add (.t 15) (.c (.v (.int .i64 1)))), ma 5 16]))
def pf120 : PF :=
  PF.mk 1 7 36 ((PC.reg [nn (.v 2) (.alloc (.arr .u8 64 [0, 0, 0, 0, 0, 0, 0, 0, 0, 0, 0, 0, 0, 0, 0, 0, 0, 0, 0, 0, 0, 0, 0, 0, 0, 0, 0, 0, 0, 0, 0, 0,
    0, 0, 0, 0, 0, 0, 0, 0, 0, 0, 0, 0, 0, 0, 0, 0, 0, 0, 0, 0, 0, 0, 0, 0, 0, 0, 0, 0, 0, 0, 0, 0]))]).seq ((PC.reg [nn (.t 7) (.build (.arr .u8 64 [0,
    0, 0, 0, 0, 0, 0, 0, 0, 0, 0, 0, 0, 0, 0, 0, 0, 0, 0, 0, 0, 0, 0, 0, 0, 0, 0, 0, 0, 0, 0, 0, 0, 0, 0, 0, 0, 0, 0, 0, 0, 0, 0, 0, 0, 0, 0, 0, 0, 0, 0,
    0, 0, 0, 0, 0, 0, 0, 0, 0, 0, 0, 0, 0]) []), nn (.v 3) (.alloc (.arr .u8 64 [0, 0, 0, 0, 0, 0, 0, 0, 0, 0, 0, 0, 0, 0, 0, 0, 0, 0, 0, 0, 0, 0, 0, 0,
    0, 0, 0, 0, 0, 0, 0, 0, 0, 0, 0, 0, 0, 0, 0, 0, 0, 0, 0, 0, 0, 0, 0, 0, 0, 0, 0, 0, 0, 0, 0, 0, 0, 0, 0, 0, 0, 0, 0, 0])), nn .no (.store 64 (.v 3)
    (.t 7))]).seq (((PC.reg [mm 8 0, nn (.t 9) (.len (.t 8)), nn (.t 10) (.bin .gtr (.t 9) (.c (.v (.int .i64 64))))]).seq (PC.cond (.t 10) ((PC.reg [mm
    11 0, nn (.t 12) (.call 119 [.t 11]), nn (.v 4) (.alloc (.arr .u8 32 [0, 0, 0, 0, 0, 0, 0, 0, 0, 0, 0, 0, 0, 0, 0, 0, 0, 0, 0, 0, 0, 0, 0, 0, 0, 0,
    0, 0, 0, 0, 0, 0])), nn .no (.store 32 (.v 4) (.t 12))]).seq (((PC.reg [nn (.v 5) (.mv true (.c (.v (.int .i64 0))))]).seq (PC.block 0 (PC.loop [2,
    3, 4, 5] lp120_1))).seq ((PC.reg [nn (.t 22) (.load 64 true (.v 3)), nn .no (.store 64 (.v 2) (.t 22))]).seq PC.ret))) PC.skip)).seq (((PC.reg [nn
    (.v 6) (.mv true (.c (.v (.int .i64 0))))]).seq (PC.block 2 (PC.loop [0, 2, 3, 6] lp120_0))).seq ((PC.reg [nn (.t 35) (.load 64 true (.v 3)), nn .no
    (.store 64 (.v 2) (.t 35))]).seq PC.ret))))) [(.v 2, some (64, true))]
attribute [local irreducible] W Wops WopsD WL Wop WopD
variable {E : Env} {C : Abs.Spec} {l : List (Nat × Spec1)} {G : List (Nat × V)} {Q : R → List (Nat × V) → Prop}
set_option maxHeartbeats 1000000
def SOf (kt : List Int) : Spec1
  | [x], G, Q => ∃ b, (partsV x = some b ∧ x.len < 100000000000000 ∧ Byt b ∧ b.length < 100000000000000) ∧ Q (.v (.arr .u8 32 (sumB kt b))) G
  | _, _, _ => False
theorem SOf_eq {kt x} : SOf kt [x] G Q = (∃ b, (partsV x = some b ∧ x.len < 100000000000000 ∧ Byt b ∧ b.length < 100000000000000) ∧ Q (.v (.arr .u8 32 (sumB kt b))) G) := rfl
def SRf (kt : List Int) : Spec1
  | [x], G, Q => ∃ b, (byV x = some b ∧ Byt b ∧ b.length < 100000000000000) ∧ Q (.v (.arr .u8 32 (sumB kt b))) G
  | _, _, _ => False
theorem SRf_eq {kt x} : SRf kt [x] G Q = (∃ b, (byV x = some b ∧ Byt b ∧ b.length < 100000000000000) ∧ Q (.v (.arr .u8 32 (sumB kt b))) G) := rfl
def SBl (kt : List Int) : Spec1
  | [x], G, Q => ∃ b, (byV x = some b ∧ Byt b ∧ b.length < 10000000000000) ∧ Q (.v (.arr .u8 64 (keyB kt b))) G
  | _, _, _ => False
theorem SBl_eq {kt x} : SBl kt [x] G Q = (∃ b, (byV x = some b ∧ Byt b ∧ b.length < 10000000000000) ∧ Q (.v (.arr .u8 64 (keyB kt b))) G) := rfl
def STd : Spec1
  | [.arr .u8 64 b, .int .u8 c], G, Q => b.length = 64 ∧ Q (.v (.sli .u8 (turnB b c))) G
  | _, _, _ => False
theorem STd_eq {b c} : STd [.arr .u8 64 b, .int .u8 c] G Q = (b.length = 64 ∧ Q (.v (.sli .u8 (turnB b c))) G) := rfl
def SSa : Spec1
  | [.arr .u8 32 a, .arr .u8 32 b], G, Q => ((Byt a ∧ a.length = 32) ∧ Byt b ∧ b.length = 32) ∧ Q (.v (.bool (decide (a = b)))) G
  | _, _, _ => False
theorem SSa_eq {a b} : SSa [.arr .u8 32 a, .arr .u8 32 b] G Q = (((Byt a ∧ a.length = 32) ∧ Byt b ∧ b.length = 32) ∧ Q (.v (.bool (decide (a = b)))) G) := rfl
theorem keyB_big {k key : List Int} (h : 64 < key.length) : (sumB k key).take 64 ++ [0, 0, 0, 0, 0, 0, 0, 0, 0, 0, 0, 0, 0, 0, 0, 0, 0, 0, 0, 0, 0, 0, 0, 0, 0, 0, 0, 0, 0, 0, 0, 0, 0, 0, 0, 0, 0, 0, 0, 0, 0, 0, 0, 0, 0, 0, 0, 0, 0, 0, 0, 0, 0, 0, 0, 0, 0, 0, 0, 0, 0, 0, 0, 0].drop (sumB k key).length = keyB k key := by
  unfold keyB; rw [if_pos h, List.take_of_length_le (by rw [sumB_len]; omega), sumB_len]; rfl
theorem keyB_small {k key : List Int} (h : ¬ 64 < key.length) : key.take 64 ++ [0, 0, 0, 0, 0, 0, 0, 0, 0, 0, 0, 0, 0, 0, 0, 0, 0, 0, 0, 0, 0, 0, 0, 0, 0, 0, 0, 0, 0, 0, 0, 0, 0, 0, 0, 0, 0, 0, 0, 0, 0, 0, 0, 0, 0, 0, 0, 0, 0, 0, 0, 0, 0, 0, 0, 0, 0, 0, 0, 0, 0, 0, 0, 0].drop key.length = keyB k key := by
  show key.take 64 ++ (List.replicate 64 (0 : Int)).drop key.length = _
  unfold keyB; rw [if_neg h, List.take_of_length_le (by omega), List.drop_replicate]
theorem walk116 {kt b : List Int} {x : V} (h64 : Abs.look l 115 = some (SOf kt)) (hx : byV x = some b) (hby : Byt b) (hb : b.length < 10000000000000) (h : Q (.v (.arr .u8 64 (keyB kt b))) G) : Wf E (specOf l) pf116 [x] G Q := by
  rcases byV_cases hx with rfl | ⟨rfl, rfl⟩
  · by_cases hbig : (64 : Int) < b.length
    · have hbig' : 64 < b.length := by omega
      simp (maxSteps := 1000000) (implicitDefEqProofs := false) only [pf116, hbig, h64, SOf_eq, go_sem, ↓reduceIte]
      refine ⟨b, ⟨by simp [partsV, catL, byV], hby, by omega⟩, ?_⟩
      have ht : ((sumB kt b).take 32) = sumB kt b := List.take_of_length_le (by rw [sumB_len]; omega)
      simp (maxSteps := 1000000) (implicitDefEqProofs := false) only [ht, List.drop_zero, go_sem, ↓reduceIte]
      rw [keyB_big hbig']
      exact h
    · have hbig' : ¬ 64 < b.length := by omega
      simp (maxSteps := 1000000) (implicitDefEqProofs := false) only [pf116, hbig, h64, SOf_eq, go_sem, ↓reduceIte]
      rw [keyB_small hbig']
      exact h
  · simp (maxSteps := 1000000) (implicitDefEqProofs := false) only [pf116, h64, SOf_eq, go_sem, ↓reduceIte]
    exact h
theorem loop117 {b : List Int} {c : Int} {QQ : Ex → St → Prop} (hl : b.length = 64)
    (hx : ∀ ts, QQ (.exit 0) ⟨[none, some (.v (.int .u8 c)), some (.lp 0 []), none, none, none, some (.v (.int .i64 64))], ts, [⟨false, .arr .u8 64 (turnB b c)⟩], G⟩) :
    ∀ (m i : Nat), i + m = 64 → WL (W E C lp117_0) [1, 2, 6] QQ (m + 1) ⟨[none, some (.v (.int .u8 c)), some (.lp 0 []), none, none, none, some (.v (.int .i64 i))], [], [⟨false, .arr .u8 64 ((turnB b c).take i ++ b.drop i)⟩], G⟩ := by
  intro m
  induction m with
  | zero =>
    intro i hi
    obtain rfl : i = 64 := by omega
    have e : (turnB b c).take 64 ++ b.drop 64 = turnB b c := by
      rw [List.take_of_length_le (by rw [turnB_len]; omega), List.drop_eq_nil_of_le (by omega), List.append_nil]
    rw [e]
    refine WL_in lp117_0.eq_1 ?_
    simp (maxSteps := 1000000) (implicitDefEqProofs := false) only [go_sem, ↓reduceIte]
    exact hx _
  | succ m ih =>
    intro i hi
    have hi64 : i < 64 := by omega
    have hlt : (i : Int) < 64 := by omega
    have ew : IntKind.i64.wrap ((i : Int) + 1) = ((i + 1 : Nat) : Int) := by rw [w64 (by omega) (by omega)]; simp
    have hs := map_step (f := fun x => bXor .u8 x c) (b := b) (i := i) (by omega)
    have ihh := ih (i + 1) (by omega)
    unfold turnB at ihh ⊢
    rw [← hs] at ihh
    refine WL_in lp117_0.eq_1 ?_
    simp (maxSteps := 1000000) (implicitDefEqProofs := false) only [hlt, hi64, ew, Int.toNat_natCast, go_sem, ↓reduceIte]
    exact ⟨by omega, by omega, ihh⟩
theorem walk117 {b : List Int} {c : Int} (hl : b.length = 64) (h : Q (.v (.sli .u8 (turnB b c))) G) : Wf E C pf117 [.arr .u8 64 b, .int .u8 c] G Q := by
  simp (maxSteps := 1000000) (implicitDefEqProofs := false) only [pf117, go_sem, ↓reduceIte]
  refine ⟨65, ?_⟩
  simp (maxSteps := 1000000) (implicitDefEqProofs := false) only [go_sem, ↓reduceIte]
  refine loop117 hl (fun ts => ?_) 64 0 (by omega)
  have ht : (turnB b c).take 64 = turnB b c := List.take_of_length_le (by rw [turnB_len]; omega)
  simp (maxSteps := 1000000) (implicitDefEqProofs := false) only [ht, List.drop_zero, go_sem, ↓reduceIte]
  exact h
theorem loop86 {a b : List Int} {z0 : Bx} {QQ : Ex → St → Prop} (ha : Byt a) (hb : Byt b) (hal : a.length = 32) (hbl : b.length = 32)
    (hx : ∀ ts u, (u = 0 ↔ a = b) → QQ (.exit 0) ⟨[none, none, none, some (.lp 1 []), none, some (.v (.int .u8 u)), none, none, some (.v (.arr .u8 32 a)), some (.v (.int .i64 32))], ts, [z0, ⟨false, .arr .u8 32 b⟩], G⟩) :
    ∀ (m i : Nat) (u : Int), i + m = 32 → (0 ≤ u ∧ u ≤ 255) → (u = 0 ↔ a.take i = b.take i) → WL (W E C lp86_0) [3, 5, 8, 9] QQ (m + 1) ⟨[none, none, none, some (.lp 1 []), none, some (.v (.int .u8 u)), none, none, some (.v (.arr .u8 32 a)), some (.v (.int .i64 i))], [], [z0, ⟨false, .arr .u8 32 b⟩], G⟩ := by
  intro m
  induction m with
  | zero =>
    intro i u hi hu hq
    obtain rfl : i = 32 := by omega
    rw [List.take_of_length_le (by omega), List.take_of_length_le (by omega)] at hq
    refine WL_in lp86_0.eq_1 ?_
    simp (maxSteps := 1000000) (implicitDefEqProofs := false) only [go_sem, ↓reduceIte]
    exact hx _ _ hq
  | succ m ih =>
    intro i u hi hu hq
    have hi32 : i < 32 := by omega
    have hlt : (i : Int) < 32 := by omega
    have ew : IntKind.i64.wrap ((i : Int) + 1) = ((i + 1 : Nat) : Int) := by rw [w64 (by omega) (by omega)]; simp
    have hga := byt_getD ha i
    have hgb := byt_getD hb i
    have hst := unlike_step hu hga hgb
    have ihh := ih (i + 1) (bOr .u8 u (bXor .u8 (a.getD i 0) (b.getD i 0))) (by omega) (or8_by _ _) (by
      rw [hst, hq, ← snoc_step' (by omega : i < a.length), ← snoc_step' (by omega : i < b.length)]
      constructor
      · rintro ⟨h1, h2⟩; rw [h1, h2]
      · intro h1
        obtain ⟨h2, h3⟩ := List.append_inj h1 (by simp [hal, hbl])
        exact ⟨h2, by simpa using h3⟩)
    refine WL_in lp86_0.eq_1 ?_
    simp (maxSteps := 1000000) (implicitDefEqProofs := false) only [hlt, hi32, ew, Int.toNat_natCast, go_sem, ↓reduceIte]
    exact ⟨by omega, by omega, ihh⟩
theorem walk86 {a b : List Int} (ha : Byt a) (hb : Byt b) (hal : a.length = 32) (hbl : b.length = 32) (h : Q (.v (.bool (decide (a = b)))) G) : Wf E C pf86 [.arr .u8 32 a, .arr .u8 32 b] G Q := by
  simp (maxSteps := 1000000) (implicitDefEqProofs := false) only [pf86, go_sem, ↓reduceIte]
  refine ⟨33, ?_⟩
  simp (maxSteps := 1000000) (implicitDefEqProofs := false) only [go_sem, ↓reduceIte]
  refine loop86 ha hb hal hbl (fun ts u hu => ?_) 32 0 0 (by omega) (by omega) (by simp)
  simp (maxSteps := 1000000) (implicitDefEqProofs := false) only [go_sem, ↓reduceIte]
  exact finB h (by simp [hu])
theorem hash120 {b hh : List Int} {z0 : Bx} {QQ : Ex → St → Prop} (hl : hh.length = 32)
    (hx : ∀ ts, QQ (.exit 0) ⟨[none, none, some (.lp 0 []), some (.lp 1 []), some (.lp 2 []), some (.v (.int .i64 32)), none], ts, [z0, ⟨false, .arr .u8 64 (hh ++ List.replicate 32 0)⟩, ⟨false, .arr .u8 32 hh⟩], G⟩) :
    ∀ (m i : Nat), i + m = 32 → WL (W E C lp120_1) [2, 3, 4, 5] QQ (m + 1) ⟨[none, none, some (.lp 0 []), some (.lp 1 []), some (.lp 2 []), some (.v (.int .i64 i)), none], [], [z0, ⟨false, .arr .u8 64 (hh.take i ++ List.replicate (32 + m) 0)⟩, ⟨false, .arr .u8 32 hh⟩], G⟩ := by
  intro m
  induction m with
  | zero =>
    intro i hi
    obtain rfl : i = 32 := by omega
    rw [List.take_of_length_le (by omega)]
    refine WL_in lp120_1.eq_1 ?_
    simp (maxSteps := 1000000) (implicitDefEqProofs := false) only [go_sem, ↓reduceIte]
    exact hx _
  | succ m ih =>
    intro i hi
    have hi32 : i < 32 := by omega
    have hi64 : i < 64 := by omega
    have hlt : (i : Int) < 32 := by omega
    have ew : IntKind.i64.wrap ((i : Int) + 1) = ((i + 1 : Nat) : Int) := by rw [w64 (by omega) (by omega)]; simp
    have hs : (hh.take i ++ List.replicate (32 + (m + 1)) 0).set i (hh.getD i 0) = hh.take (i + 1) ++ List.replicate (32 + m) 0 := by
      rw [List.set_append_right _ _ (by simp; omega), List.length_take, Nat.min_eq_left (by omega), Nat.sub_self, show 32 + (m + 1) = (32 + m) + 1 by omega, List.replicate_succ, List.set_cons_zero, ← snoc_step' (by omega : i < hh.length), List.append_assoc]; rfl
    have ihh := ih (i + 1) (by omega)
    rw [← hs] at ihh
    generalize hh.take i ++ List.replicate (32 + (m + 1)) 0 = w at *
    refine WL_in lp120_1.eq_1 ?_
    simp (maxSteps := 1000000) (implicitDefEqProofs := false) only [hlt, hi32, hi64, ew, Int.toNat_natCast, go_sem, ↓reduceIte]
    exact ⟨by omega, by omega, ihh⟩
theorem text120 {b : List Int} {z0 : Bx} {QQ : Ex → St → Prop} (hl : b.length ≤ 64)
    (hx : ∀ ts, QQ (.exit 2) ⟨[some (.v (.sli .u8 b)), none, some (.lp 0 []), some (.lp 1 []), none, none, some (.v (.int .i64 b.length))], ts, [z0, ⟨false, .arr .u8 64 (b ++ List.replicate (64 - b.length) 0)⟩], G⟩) :
    ∀ (m i : Nat), i + m = b.length → WL (W E C lp120_0) [0, 2, 3, 6] QQ (m + 1) ⟨[some (.v (.sli .u8 b)), none, some (.lp 0 []), some (.lp 1 []), none, none, some (.v (.int .i64 i))], [], [z0, ⟨false, .arr .u8 64 (b.take i ++ List.replicate (64 - i) 0)⟩], G⟩ := by
  intro m
  induction m with
  | zero =>
    intro i hi
    obtain rfl : i = b.length := by omega
    have hno : ¬ (b.length : Int) < (b.length : Int) := by omega
    rw [List.take_of_length_le (by omega)]
    refine WL_in lp120_0.eq_1 ?_
    simp (maxSteps := 1000000) (implicitDefEqProofs := false) only [hno, go_sem, ↓reduceIte]
    exact hx _
  | succ m ih =>
    intro i hi
    have hi64 : i < 64 := by omega
    have hlt : (i : Int) < b.length := by omega
    have ew : IntKind.i64.wrap ((i : Int) + 1) = ((i + 1 : Nat) : Int) := by rw [w64 (by omega) (by omega)]; simp
    have hs : (b.take i ++ List.replicate (64 - i) 0).set i (b.getD i 0) = b.take (i + 1) ++ List.replicate (64 - (i + 1)) 0 := by
      rw [List.set_append_right _ _ (by simp; omega), List.length_take, Nat.min_eq_left (by omega), Nat.sub_self, show 64 - i = (64 - (i + 1)) + 1 by omega, List.replicate_succ, List.set_cons_zero, ← snoc_step' (by omega : i < b.length), List.append_assoc]; rfl
    have ihh := ih (i + 1) (by omega)
    rw [← hs] at ihh
    generalize b.take i ++ List.replicate (64 - i) 0 = w at *
    refine WL_in lp120_0.eq_1 ?_
    simp (maxSteps := 1000000) (implicitDefEqProofs := false) only [hlt, hi64, ew, Int.toNat_natCast, go_sem, ↓reduceIte]
    exact ⟨by omega, by omega, ihh⟩
theorem walk120 {kt b : List Int} {x : V} (h69 : Abs.look l 119 = some (SRf kt)) (hx : byV x = some b) (hby : Byt b) (hb : b.length < 10000000000000) (h : Q (.v (.arr .u8 64 (keyB kt b))) G) : Wf E (specOf l) pf120 [x] G Q := by
  rcases byV_cases hx with rfl | ⟨rfl, rfl⟩
  · by_cases hbig : (64 : Int) < b.length
    · have hbig' : 64 < b.length := by omega
      simp (maxSteps := 1000000) (implicitDefEqProofs := false) only [pf120, hbig, h69, SRf_eq, go_sem, ↓reduceIte]
      refine ⟨b, ⟨rfl, hby, by omega⟩, 33, ?_⟩
      simp (maxSteps := 1000000) (implicitDefEqProofs := false) only [go_sem, ↓reduceIte]
      refine hash120 (b := b) (sumB_len _ _) (fun ts => ?_) 32 0 (by omega)
      simp (maxSteps := 1000000) (implicitDefEqProofs := false) only [go_sem, ↓reduceIte]
      unfold keyB at h; rw [if_pos hbig'] at h
      exact h
    · have hbig' : ¬ 64 < b.length := by omega
      simp (maxSteps := 1000000) (implicitDefEqProofs := false) only [pf120, hbig, go_sem, ↓reduceIte]
      refine ⟨b.length + 1, ?_⟩
      simp (maxSteps := 1000000) (implicitDefEqProofs := false) only [go_sem, ↓reduceIte]
      refine text120 (by omega) (fun ts => ?_) b.length 0 (by omega)
      simp (maxSteps := 1000000) (implicitDefEqProofs := false) only [go_sem, ↓reduceIte]
      unfold keyB at h; rw [if_neg hbig'] at h
      exact h
  · simp (maxSteps := 1000000) (implicitDefEqProofs := false) only [pf120, go_sem, ↓reduceIte]
    refine ⟨1, ?_⟩
    simp (maxSteps := 1000000) (implicitDefEqProofs := false) only [go_sem, ↓reduceIte]
    refine WL_in lp120_0.eq_1 ?_
    simp (maxSteps := 1000000) (implicitDefEqProofs := false) only [go_sem, ↓reduceIte]
    exact h
end Go.Proofs.YtegamlopcdjiaaaDoor.Sha
