/- Rows, certificates, accumulations. -/
import Derived.Test.YtegamlopcdjiaaaDoorUSrt1
namespace Go.Proofs.YtegamlopcdjiaaaDoor.Sha
open Go Go.Abs Go.Abs.Sha Go.Abs.Srt
set_option linter.unusedSimpArgs false
set_option linter.unusedVariables false
set_option maxRecDepth 100000
def lp134_0 : PC :=
  ((PC.reg [mm 11 10, mm 12 3, nn (.t 13) (.bin .lss (.t 11) (.t 12))]).seq (PC.cond (.t 13) PC.skip (PC.exit 0))).seq ((PC.block 1 (PC.regD 0 [mm 16 0,
    mm 17 1, mm 18 10, nn (.t 19) (.bin .add (.t 17) (.t 18)), mm 20 0, mm 21 2, mm 22 10, nn (.t 23) (.bin .add (.t 21) (.t 22)), mm 24 0, mm 25 2, mm
    26 10, nn (.t 27) (.bin .add (.t 25) (.t 26)), nn (.t 28) (.iadrS 101 (.t 24) (.t 27)), nn (.t 29) (.load 101 true (.t 28)), mm 30 0, mm 31 1, mm 32
    10, nn (.t 33) (.bin .add (.t 31) (.t 32)), nn (.t 34) (.iadrS 101 (.t 30) (.t 33)), nn (.t 35) (.load 101 true (.t 34)), nn (.t 36) (.iadrS 101 (.t
    16) (.t 19)), nn .no (.store 101 (.t 36) (.t 29)), nn (.t 37) (.iadrS 101 (.t 20) (.t 23)), nn .no (.store 101 (.t 37) (.t 35))] [])).seq (PC.reg [mm
    14 10, nn (.t 15) (.bin .add (.t 14) (.c (.v (.int .i64 1)))), ma 10 15]))
def pf134 : PF :=
  PF.mk 5 11 38 ((PC.reg [nn (.v 10) (.mv true (.c (.v (.int .i64 0))))]).seq (PC.block 0 (PC.loop [0, 1, 2, 3, 10] lp134_0))) []
def lp128_0 : PC :=
  ((PC.reg [mm 18 10, mm 19 11, nn (.t 20) (.bin .neq (.t 18) (.t 19))]).seq (PC.cond (.t 20) PC.skip (PC.exit 0))).seq (PC.block 1 ((PC.reg [mm 21 10,
    mm 22 11, nn (.t 23) (.bin .gtr (.t 21) (.t 22))]).seq (PC.cond (.t 23) ((PC.reg [mm 24 0, mm 25 2, mm 26 10, nn (.t 27) (.bin .sub (.t 25) (.t 26)),
    mm 28 2, mm 29 11, mm 30 4, nn (.t 31) (.call 134 [.t 24, .t 27, .t 28, .t 29, .t 30])]).seq (PC.reg [mm 32 10, mm 33 11, nn (.t 34) (.bin .sub (.t
    32) (.t 33)), ma 10 34])) ((PC.reg [mm 35 0, mm 36 2, mm 37 10, nn (.t 38) (.bin .sub (.t 36) (.t 37)), mm 39 2, mm 40 11, nn (.t 41) (.bin .add (.t
    39) (.t 40)), mm 42 10, nn (.t 43) (.bin .sub (.t 41) (.t 42)), mm 44 10, mm 45 4, nn (.t 46) (.call 134 [.t 35, .t 38, .t 43, .t 44, .t 45])]).seq
    (PC.reg [mm 47 11, mm 48 10, nn (.t 49) (.bin .sub (.t 47) (.t 48)), ma 11 49])))))
def pf128 : PF :=
  PF.mk 5 12 58 ((PC.reg [mm 12 2, mm 13 1, nn (.t 14) (.bin .sub (.t 12) (.t 13)), ma 10 14]).seq ((PC.reg [mm 15 3, mm 16 2, nn (.t 17) (.bin .sub (.t
    15) (.t 16)), ma 11 17]).seq ((PC.block 0 (PC.loop [0, 2, 4, 10, 11] lp128_0)).seq (PC.reg [mm 50 0, mm 51 2, mm 52 10, nn (.t 53) (.bin .sub (.t 51)
    (.t 52)), mm 54 2, mm 55 10, mm 56 4, nn (.t 57) (.call 134 [.t 50, .t 53, .t 54, .t 55, .t 56])])))) []
attribute [local irreducible] W Wops WopsD WL Wop WopD
variable {E : Env} {C : Abs.Spec} {l : List (Nat × Spec1)} {G : List (Nat × V)} {Q : R → List (Nat × V) → Prop}
set_option maxHeartbeats 1000000
def ZIs (T : List (Nat × Spec1)) : Spec1
  | [.sob id 101 0 n c, .int .i64 a, .int .i64 b, .fn f caps], G, Q => ∃ A S B key P z, (Abs.look G id = some (.agg (A ++ S ++ B)) ∧ (a = (A.length : Nat) ∧ b = ((A ++ S).length : Nat)) ∧ ((A ++ S).length ≤ n ∧ n ≤ (A ++ S ++ B).length ∧ n < 1000000000000000) ∧ (∀ y ∈ A ++ S ++ B, P y) ∧ RowOk 101 z (A ++ S ++ B) ∧ KeyFn T f caps P key) ∧ Q (.tup []) (Abs.upd G id (.agg (A ++ srt key S ++ B)))
  | [.sle 101 [], .int .i64 a, .int .i64 b, .fn f caps], G, Q => (a = 0 ∧ b = 0) ∧ Q (.tup []) G
  | _, _, _ => False
theorem ZIs_nil {T a b f caps} : ZIs T [.sle 101 [], .int .i64 a, .int .i64 b, .fn f caps] G Q = ((a = 0 ∧ b = 0) ∧ Q (.tup []) G) := rfl
theorem ZIs_eq {T id n c a b f caps} : ZIs T [.sob id 101 0 n c, .int .i64 a, .int .i64 b, .fn f caps] G Q = (∃ A S B key P z, (Abs.look G id = some (.agg (A ++ S ++ B)) ∧ (a = (A.length : Nat) ∧ b = ((A ++ S).length : Nat)) ∧ ((A ++ S).length ≤ n ∧ n ≤ (A ++ S ++ B).length ∧ n < 1000000000000000) ∧ (∀ y ∈ A ++ S ++ B, P y) ∧ RowOk 101 z (A ++ S ++ B) ∧ KeyFn T f caps P key) ∧ Q (.tup []) (Abs.upd G id (.agg (A ++ srt key S ++ B)))) := rfl
def ZSr : Spec1
  | [.sob id 101 0 n c, .int .i64 a, .int .i64 b, .int .i64 k, .fn f caps], G, Q => ∃ A X M Y B z, (Abs.look G id = some (.agg (A ++ X ++ M ++ Y ++ B)) ∧ (a = (A.length : Nat) ∧ b = ((A ++ X ++ M).length : Nat) ∧ k = (X.length : Nat) ∧ Y.length = X.length) ∧ ((A ++ X ++ M ++ Y).length ≤ n ∧ n ≤ (A ++ X ++ M ++ Y ++ B).length ∧ n < 1000000000000000) ∧ RowOk 101 z (A ++ X ++ M ++ Y ++ B)) ∧ Q (.tup []) (Abs.upd G id (.agg (A ++ Y ++ M ++ X ++ B)))
  | _, _, _ => False
theorem ZSr_eq {id n c a b k f caps} : ZSr [.sob id 101 0 n c, .int .i64 a, .int .i64 b, .int .i64 k, .fn f caps] G Q = (∃ A X M Y B z, (Abs.look G id = some (.agg (A ++ X ++ M ++ Y ++ B)) ∧ (a = (A.length : Nat) ∧ b = ((A ++ X ++ M).length : Nat) ∧ k = (X.length : Nat) ∧ Y.length = X.length) ∧ ((A ++ X ++ M ++ Y).length ≤ n ∧ n ≤ (A ++ X ++ M ++ Y ++ B).length ∧ n < 1000000000000000) ∧ RowOk 101 z (A ++ X ++ M ++ Y ++ B)) ∧ Q (.tup []) (Abs.upd G id (.agg (A ++ Y ++ M ++ X ++ B)))) := rfl
def ZRt : Spec1
  | [.sob id 101 0 n c, .int .i64 a, .int .i64 m, .int .i64 b, .fn f caps], G, Q => ∃ A X Y B z, (Abs.look G id = some (.agg (A ++ X ++ Y ++ B)) ∧ (a = (A.length : Nat) ∧ m = ((A ++ X).length : Nat) ∧ b = ((A ++ X ++ Y).length : Nat) ∧ 0 < X.length ∧ 0 < Y.length) ∧ ((A ++ X ++ Y).length ≤ n ∧ n ≤ (A ++ X ++ Y ++ B).length ∧ n < 1000000000000000) ∧ RowOk 101 z (A ++ X ++ Y ++ B)) ∧ Q (.tup []) (Abs.upd G id (.agg (A ++ Y ++ X ++ B)))
  | _, _, _ => False
theorem ZRt_eq {id n c a m b f caps} : ZRt [.sob id 101 0 n c, .int .i64 a, .int .i64 m, .int .i64 b, .fn f caps] G Q = (∃ A X Y B z, (Abs.look G id = some (.agg (A ++ X ++ Y ++ B)) ∧ (a = (A.length : Nat) ∧ m = ((A ++ X).length : Nat) ∧ b = ((A ++ X ++ Y).length : Nat) ∧ 0 < X.length ∧ 0 < Y.length) ∧ ((A ++ X ++ Y).length ≤ n ∧ n ≤ (A ++ X ++ Y ++ B).length ∧ n < 1000000000000000) ∧ RowOk 101 z (A ++ X ++ Y ++ B)) ∧ Q (.tup []) (Abs.upd G id (.agg (A ++ Y ++ X ++ B)))) := rfl
theorem wc {x : Int} {k : Nat} (h : x = (k : Int)) (h2 : k < 9000000000000000000) : IntKind.i64.wrap x = (k : Int) := by rw [h]; exact w64 (by omega) (by omega)
theorem loop134 {id n c a b k : Nat} {z : V} {QQ : Ex → St → Prop} {L0 A X0 M Y0 B : List V} (hG : Abs.look G id = some (.agg L0)) (hn : n < 1000000000000000) (ha : a = A.length) (hb : b = A.length + X0.length + M.length) (hk : k = X0.length) (hY : Y0.length = X0.length)
    (hbn : A.length + X0.length + M.length + Y0.length ≤ n) (hnL : n ≤ L0.length)
    (hx : ∀ (i : Nat) ts, QQ (.exit 0) ⟨[some (.v (.sob id 101 0 n c)), some (.v (.int .i64 (a : Nat))), some (.v (.int .i64 (b : Nat))), some (.v (.int .i64 (k : Nat))), none, none, none, none, none, none, some (.v (.int .i64 (i : Nat)))], ts, [], Abs.upd G id (.agg (A ++ Y0 ++ M ++ X0 ++ B))⟩) :
    ∀ (r : Nat) (X1 X2 Y1 Y2 : List V) (i : Nat) (G2 : List (Nat × V)), G2 = Abs.upd G id (.agg (A ++ (Y1 ++ X2) ++ M ++ (X1 ++ Y2) ++ B)) → X1 ++ X2 = X0 → Y1 ++ Y2 = Y0 → X1.length = i → Y1.length = i → X2.length = r → RowOk 101 z (A ++ (Y1 ++ X2) ++ M ++ (X1 ++ Y2) ++ B) → (A ++ (Y1 ++ X2) ++ M ++ (X1 ++ Y2) ++ B).length = L0.length →
      WL (W E C lp134_0) [0, 1, 2, 3, 10] QQ (r + 1) ⟨[some (.v (.sob id 101 0 n c)), some (.v (.int .i64 (a : Nat))), some (.v (.int .i64 (b : Nat))), some (.v (.int .i64 (k : Nat))), none, none, none, none, none, none, some (.v (.int .i64 (i : Nat)))], [], [], G2⟩ := by
  intro r
  induction r with
  | zero =>
    rintro X1 X2 Y1 Y2 i G2 rfl hX hY2 h1 h2 h3 hR hl
    have e1 : X2 = [] := List.eq_nil_of_length_eq_zero h3
    subst e1
    have e2 : Y2 = [] := by
      have k1 := congrArg List.length hX; have k2 := congrArg List.length hY2
      simp only [List.length_append, List.length_nil] at k1 k2
      exact List.eq_nil_of_length_eq_zero (by omega)
    subst e2
    have k1 := congrArg List.length hX
    simp only [List.length_append, List.length_nil] at k1
    simp only [List.append_nil] at hX hY2 ⊢
    subst hX; subst hY2
    have c1 : ¬ (i : Int) < (k : Int) := by omega
    refine WL_in lp134_0.eq_1 ?_
    simp (maxSteps := 1000000) (implicitDefEqProofs := false) only [c1, go_sem, ↓reduceIte]
    exact hx i _
  | succ r ih =>
    rintro X1 X2 Y1 Y2 i G2 rfl hX hY2 h1 h2 h3 hR hl
    have k1 := congrArg List.length hX; have k2 := congrArg List.length hY2
    simp only [List.length_append] at k1 k2
    obtain ⟨x, X2, rfl⟩ : ∃ x U, X2 = x :: U := by
      cases X2 with
      | nil => simp at h3
      | cons x U => exact ⟨x, U, rfl⟩
    obtain ⟨y, Y2, rfl⟩ : ∃ x U, Y2 = x :: U := by
      cases Y2 with
      | nil => simp only [List.length_cons, List.length_nil] at h3 k1 k2; omega
      | cons x U => exact ⟨x, U, rfl⟩
    simp only [List.length_cons] at h3 k1 k2
    have next := ih (X1 ++ [x]) X2 (Y1 ++ [y]) Y2 (i + 1) _ rfl (by rw [← hX]; simp) (by rw [← hY2]; simp) (by simp [h1]) (by simp [h2]) (by omega)
    have f1 : A ++ (Y1 ++ x :: X2) ++ M ++ (X1 ++ y :: Y2) ++ B = (A ++ Y1) ++ x :: (X2 ++ M ++ X1 ++ y :: (Y2 ++ B)) := by simp
    have f2 : A ++ (Y1 ++ x :: X2) ++ M ++ (X1 ++ y :: Y2) ++ B = (A ++ Y1 ++ x :: (X2 ++ M ++ X1)) ++ y :: (Y2 ++ B) := by simp
    have l1 : (A ++ Y1).length = a + i := by simp [ha, h2]
    have l2 : (A ++ Y1 ++ x :: (X2 ++ M ++ X1)).length = b + i := by first | omega | (simp only [List.length_append, List.length_cons, List.length_nil]; omega)
    have l2y : (A ++ Y1 ++ y :: (X2 ++ M ++ X1)).length = b + i := by first | omega | (simp only [List.length_append, List.length_cons, List.length_nil]; omega)
    have g1 : (A ++ (Y1 ++ x :: X2) ++ M ++ (X1 ++ y :: Y2) ++ B)[a + i]? = some x := by rw [f1]; exact get_mid l1.symm
    have g2 : (A ++ (Y1 ++ x :: X2) ++ M ++ (X1 ++ y :: Y2) ++ B)[b + i]? = some y := by rw [f2]; exact get_mid l2.symm
    have s1' : (A ++ (Y1 ++ x :: X2) ++ M ++ (X1 ++ y :: Y2) ++ B).set (a + i) y = (A ++ Y1 ++ y :: (X2 ++ M ++ X1)) ++ y :: (Y2 ++ B) := by rw [f1, set_mid l1.symm]; simp
    have s2' : ((A ++ Y1 ++ y :: (X2 ++ M ++ X1)) ++ y :: (Y2 ++ B)).set (b + i) x = A ++ ((Y1 ++ [y]) ++ X2) ++ M ++ ((X1 ++ [x]) ++ Y2) ++ B := by rw [set_mid l2y.symm]; simp
    have hRn : RowOk 101 z (A ++ ((Y1 ++ [y]) ++ X2) ++ M ++ ((X1 ++ [x]) ++ Y2) ++ B) := hR.mem fun w hw => by
      simp only [List.mem_append, List.mem_cons, List.not_mem_nil, or_false] at hw ⊢
      rcases hw with (((h | (h | h) | h) | h) | (h | h) | h) | h <;> simp [h]
    have hln : (A ++ ((Y1 ++ [y]) ++ X2) ++ M ++ ((X1 ++ [x]) ++ Y2) ++ B).length = L0.length := by rw [← hl]; simp only [List.length_append, List.length_cons, List.length_nil]; omega
    replace next := next hRn hln
    rw [← s1'] at s2'
    have hRs := hR.set (i := a + i) g2
    rw [← s2'] at next
    generalize hL : A ++ (Y1 ++ x :: X2) ++ M ++ (X1 ++ y :: Y2) ++ B = L at *
    have hcur : Abs.look (Abs.upd G id (.agg L)) id = some (.agg L) := look_upd_same hG
    have hcur2 : Abs.look (Abs.upd G id (.agg (L.set (a + i) y))) id = some (.agg (L.set (a + i) y)) := look_upd_same hG
    have t1 := hR.get g1
    have t2 := hR.get g2
    have m12 := hR.same g1 g2
    have m21 := hR.same g2 g1
    have hab : a + i ≠ b + i := by omega
    have g2' : (L.set (a + i) y)[b + i]? = some y := by rw [List.getElem?_set_ne hab]; exact g2
    have a1 := t1.2.1
    have a2 := t2.2.1
    unfold V.isAgg at a1 a2
    have hsz := hR.sizes
    have hsz2 := hRs.sizes
    have wa : IntKind.i64.wrap ((a : Int) + (i : Int)) = ((a + i : Nat) : Int) := wc (by omega) (by omega)
    have wb : IntKind.i64.wrap ((b : Int) + (i : Int)) = ((b + i : Nat) : Int) := wc (by omega) (by omega)
    have wi : IntKind.i64.wrap ((i : Int) + 1) = ((i + 1 : Nat) : Int) := wc (by omega) (by omega)
    have c1 : (i : Int) < (k : Int) := by omega
    refine WL_in lp134_0.eq_1 ?_
    simp (maxSteps := 1000000) (implicitDefEqProofs := false) only [c1, wa, wb, wi, hcur, hcur2, g1, g2, g2', t1.1, t2.1, a1, a2, m12, m21, Int.toNat_natCast, upd_upd, go_sem, ↓reduceIte]
    exact ⟨⟨⟨by omega, by omega⟩, by omega, hsz⟩, ⟨⟨by omega, by omega⟩, by omega, hsz⟩, ⟨⟨by omega, by omega⟩, by omega, hsz⟩, ⟨⟨by omega, by omega⟩, by rw [List.length_set]; omega, hsz2⟩, next⟩
theorem walk134 {id n c f : Nat} {a b k : Int} {caps : List V} (h : ZSr [.sob id 101 0 n c, .int .i64 a, .int .i64 b, .int .i64 k, .fn f caps] G Q) : Wf E C pf134 [.sob id 101 0 n c, .int .i64 a, .int .i64 b, .int .i64 k, .fn f caps] G Q := by
  obtain ⟨A, X, M, Y, B, z, ⟨hG, ⟨rfl, rfl, rfl, hY⟩, ⟨hb, hnL, hn⟩, hR⟩, h⟩ := h
  simp only [List.length_append] at hb hnL
  simp (maxSteps := 1000000) (implicitDefEqProofs := false) only [pf134, go_sem, ↓reduceIte]
  refine ⟨X.length + 1, ?_⟩
  simp (maxSteps := 1000000) (implicitDefEqProofs := false) only [go_sem, ↓reduceIte]
  refine loop134 (z := z) (A := A) (X0 := X) (M := M) (Y0 := Y) (B := B) hG hn rfl (by simp) rfl hY (by omega) (by first | omega | (simp only [List.length_append, List.length_cons, List.length_nil]; omega)) (fun i ts => ?_) X.length [] X [] Y 0 G ?_ rfl rfl rfl rfl rfl hR rfl
  · simp (maxSteps := 1000000) (implicitDefEqProofs := false) only [go_sem, ↓reduceIte]
    exact h
  · exact (upd_self hG).symm
theorem loop128 {id n c m f : Nat} {caps : List V} {z : V} {QQ : Ex → St → Prop} (hS : Abs.look l 134 = some ZSr) {L0 F : List V} (hG : Abs.look G id = some (.agg L0)) (hn : n < 1000000000000000) (hnL : n ≤ L0.length)
    (hx : ∀ (i : Nat) ts (A X Y B : List V), A ++ Y ++ X ++ B = F → X.length = i → Y.length = i → A.length + i = m → m + i ≤ n → RowOk 101 z (A ++ X ++ Y ++ B) → (A ++ X ++ Y ++ B).length = L0.length → QQ (.exit 0) ⟨[some (.v (.sob id 101 0 n c)), none, some (.v (.int .i64 (m : Nat))), none, some (.v (.fn f caps)), none, none, none, none, none, some (.v (.int .i64 (i : Nat))), some (.v (.int .i64 (i : Nat)))], ts, [], Abs.upd G id (.agg (A ++ X ++ Y ++ B))⟩) :
    ∀ (r : Nat) (A X Y B : List V) (i j : Nat) (G2 : List (Nat × V)), i + j ≤ r → G2 = Abs.upd G id (.agg (A ++ X ++ Y ++ B)) → A ++ Y ++ X ++ B = F → X.length = i → Y.length = j → 0 < i → 0 < j → A.length + i = m → m + j ≤ n → RowOk 101 z (A ++ X ++ Y ++ B) → (A ++ X ++ Y ++ B).length = L0.length →
      WL (W E (specOf l) lp128_0) [0, 2, 4, 10, 11] QQ (r + 1) ⟨[some (.v (.sob id 101 0 n c)), none, some (.v (.int .i64 (m : Nat))), none, some (.v (.fn f caps)), none, none, none, none, none, some (.v (.int .i64 (i : Nat))), some (.v (.int .i64 (j : Nat)))], [], [], G2⟩ := by
  intro r
  induction r with
  | zero => intro A X Y B i j G2 h0 _ _ _ _ h1 h2; omega
  | succ r ih =>
    rintro A X Y B i j G2 h0 rfl hF hX hY h1 h2 hA hm hR hl
    refine WL_in lp128_0.eq_1 ?_
    by_cases e : i = j
    · subst e
      simp (maxSteps := 1000000) (implicitDefEqProofs := false) only [go_sem, ↓reduceIte]
      exact hx i _ A X Y B hF hX hY hA hm hR hl
    · have c0 : ¬ ((i : Int) = (j : Int)) := by omega
      have hcur : Abs.look (Abs.upd G id (.agg (A ++ X ++ Y ++ B))) id = some (.agg (A ++ X ++ Y ++ B)) := look_upd_same hG
      have wmi : IntKind.i64.wrap ((m : Int) - (i : Int)) = ((A.length : Nat) : Int) := wc (by omega) (by omega)
      have hlen := hl
      simp only [List.length_append] at hlen
      by_cases hij : j < i
      · have c1 : (i : Int) > (j : Int) := by omega
        have wij : IntKind.i64.wrap ((i : Int) - (j : Int)) = ((i - j : Nat) : Int) := wc (by omega) (by omega)
        obtain ⟨X1, X2, rfl, hX1⟩ : ∃ X1 X2, X = X1 ++ X2 ∧ X1.length = j := ⟨X.take j, X.drop j, (List.take_append_drop j X).symm, List.length_take_of_le (by omega)⟩
        simp only [List.length_append] at hX hlen
        have next := ih (A ++ Y) X2 X1 B (i - j) j _ (by omega) rfl (by rw [← hF]; simp) (by omega) hX1 (by omega) h2 (by first | omega | (simp only [List.length_append, List.length_cons, List.length_nil]; omega)) hm (hR.mem fun w hw => by
          simp only [List.mem_append] at hw ⊢
          rcases hw with (((h | h) | h) | h) | h <;> simp [h]) (by rw [← hl]; simp; omega)
        simp (maxSteps := 1000000) (implicitDefEqProofs := false) only [c0, c1, wmi, wij, hS, ZSr_eq, go_sem, ↓reduceIte]
        refine ⟨A, X1, X2, Y, B, z, ⟨by rw [hcur]; simp, ⟨rfl, by first | omega | (simp only [List.length_append, List.length_cons, List.length_nil]; omega), by rw [hX1], by omega⟩, ⟨by first | omega | (simp only [List.length_append, List.length_cons, List.length_nil]; omega), by first | omega | (simp only [List.length_append, List.length_cons, List.length_nil]; omega), hn⟩, by simpa [List.append_assoc] using hR⟩, ?_⟩
        try simp (maxSteps := 1000000) (implicitDefEqProofs := false) only [wij, upd_upd, go_sem, ↓reduceIte]
        rw [show A ++ Y ++ X2 ++ X1 ++ B = (A ++ Y) ++ X2 ++ X1 ++ B from rfl]
        exact next
      · have c1 : ¬ (i : Int) > (j : Int) := by omega
        have wji : IntKind.i64.wrap ((j : Int) - (i : Int)) = ((j - i : Nat) : Int) := wc (by omega) (by omega)
        have wmj : IntKind.i64.wrap ((m : Int) + (j : Int)) = ((m + j : Nat) : Int) := wc (by omega) (by omega)
        have wmji : IntKind.i64.wrap (((m + j : Nat) : Int) - (i : Int)) = ((m + j - i : Nat) : Int) := wc (by omega) (by omega)
        obtain ⟨Y1, Y2, rfl, hY1⟩ : ∃ X1 X2, Y = X1 ++ X2 ∧ X1.length = j - i := ⟨Y.take (j - i), Y.drop (j - i), (List.take_append_drop _ Y).symm, List.length_take_of_le (by omega)⟩
        simp only [List.length_append] at hY hlen
        have next := ih A Y2 Y1 (X ++ B) i (j - i) _ (by omega) rfl (by rw [← hF]; simp) (by omega) hY1 h1 (by omega) hA (by omega) (hR.mem fun w hw => by
          simp only [List.mem_append] at hw ⊢
          rcases hw with ((h | h) | h) | (h | h) <;> simp [h]) (by rw [← hl]; simp; omega)
        simp (maxSteps := 1000000) (implicitDefEqProofs := false) only [c0, c1, wmi, wji, wmj, wmji, hS, ZSr_eq, go_sem, ↓reduceIte]
        refine ⟨A, X, Y1, Y2, B, z, ⟨by rw [hcur]; simp, ⟨rfl, by first | omega | (simp only [List.length_append, List.length_cons, List.length_nil]; omega), by rw [hX], by omega⟩, ⟨by first | omega | (simp only [List.length_append, List.length_cons, List.length_nil]; omega), by first | omega | (simp only [List.length_append, List.length_cons, List.length_nil]; omega), hn⟩, by simpa [List.append_assoc] using hR⟩, ?_⟩
        try simp (maxSteps := 1000000) (implicitDefEqProofs := false) only [wji, upd_upd, go_sem, ↓reduceIte]
        rw [show A ++ Y2 ++ Y1 ++ X ++ B = A ++ Y2 ++ Y1 ++ (X ++ B) by simp]
        exact next
theorem walk128 {id n c f : Nat} {a m b : Int} {caps : List V} (hS : Abs.look l 134 = some ZSr) (h : ZRt [.sob id 101 0 n c, .int .i64 a, .int .i64 m, .int .i64 b, .fn f caps] G Q) : Wf E (specOf l) pf128 [.sob id 101 0 n c, .int .i64 a, .int .i64 m, .int .i64 b, .fn f caps] G Q := by
  obtain ⟨A, X, Y, B, z, ⟨hG, ⟨rfl, rfl, rfl, h1, h2⟩, ⟨hb, hnL, hn⟩, hR⟩, h⟩ := h
  have hb' := hb
  have hnL' := hnL
  simp only [List.length_append] at hb' hnL'
  have w1 : IntKind.i64.wrap (((A ++ X).length : Int) - (A.length : Int)) = ((X.length : Nat) : Int) := wc (by first | omega | (simp only [List.length_append, List.length_cons, List.length_nil]; omega)) (by omega)
  have w2 : IntKind.i64.wrap (((A ++ X ++ Y).length : Int) - ((A ++ X).length : Int)) = ((Y.length : Nat) : Int) := wc (by first | omega | (simp only [List.length_append, List.length_cons, List.length_nil]; omega)) (by omega)
  generalize hm : (A ++ X).length = m at *
  generalize hbb : (A ++ X ++ Y).length = b at *
  have hm' := hm
  simp only [List.length_append] at hm'
  simp (maxSteps := 1000000) (implicitDefEqProofs := false) only [pf128, w1, w2, go_sem, ↓reduceIte]
  refine ⟨X.length + Y.length + 1, ?_⟩
  simp (maxSteps := 1000000) (implicitDefEqProofs := false) only [go_sem, ↓reduceIte]
  refine loop128 (z := z) (F := A ++ Y ++ X ++ B) hS hG hn hnL (fun i ts A' X' Y' B' e1 e2 e3 e4 e5 e6 e7 => ?_) _ A X Y B X.length Y.length G (Nat.le_refl _) (upd_self hG).symm rfl rfl rfl h1 h2 (by omega) (by omega) hR rfl
  have hcur : Abs.look (Abs.upd G id (.agg (A' ++ X' ++ Y' ++ B'))) id = some (.agg (A' ++ X' ++ Y' ++ B')) := look_upd_same hG
  have wmi : IntKind.i64.wrap ((m : Int) - (i : Int)) = ((A'.length : Nat) : Int) := wc (by omega) (by omega)
  have e7' := e7
  simp only [List.length_append] at e7'
  simp (maxSteps := 1000000) (implicitDefEqProofs := false) only [wmi, hS, ZSr_eq, go_sem, ↓reduceIte]
  refine ⟨A', X', [], Y', B', z, ⟨by rw [hcur]; simp, ⟨rfl, by first | omega | (simp only [List.length_append, List.length_cons, List.length_nil]; omega), by rw [e2], by omega⟩, ⟨by first | omega | (simp only [List.length_append, List.length_cons, List.length_nil]; omega), by first | omega | (simp only [List.length_append, List.length_cons, List.length_nil]; omega), hn⟩, by simpa [List.append_assoc] using e6⟩, ?_⟩
  simp (maxSteps := 1000000) (implicitDefEqProofs := false) only [upd_upd, go_sem, ↓reduceIte]
  rw [e1]
  exact h
end Go.Proofs.YtegamlopcdjiaaaDoor.Sha
