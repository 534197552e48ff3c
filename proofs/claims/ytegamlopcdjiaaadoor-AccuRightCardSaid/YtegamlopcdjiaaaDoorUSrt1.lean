/- Rows, certificates, accumulations. -/
import Derived.Test.YtegamlopcdjiaaaDoorRowA
import Derived.Test.YtegamlopcdjiaaaDoorShaC
namespace Go.Proofs.YtegamlopcdjiaaaDoor.Sha
open Go Go.Abs Go.Abs.Sha Go.Abs.Srt
set_option linter.unusedSimpArgs false
set_option linter.unusedVariables false
set_option maxRecDepth 100000
def lp121_0 : PC :=
  ((PC.regD 0 [mm 18 9, mm 19 1, nn (.t 20) (.bin .gtr (.t 18) (.t 19)), nn (.t 21) (.mv false (.t 20)), gm 22 3 21 true, gm 23 0 21 true, gm 24 9 21
    true, ⟨.t 25, .iadrS 101 (.t 23) (.t 24), some (.t 21, true)⟩, ⟨.t 26, .load 101 true (.t 25), some (.t 21, true)⟩, gm 27 0 21 true, gm 28 9 21 true,
    ⟨.t 29, .bin .sub (.t 28) (.c (.v (.int .i64 1))), some (.t 21, true)⟩, ⟨.t 30, .iadrS 101 (.t 27) (.t 29), some (.t 21, true)⟩, ⟨.t 31, .load 101
    true (.t 30), some (.t 21, true)⟩, ⟨.t 32, .callV (.t 22) [.t 26, .t 31], some (.t 21, true)⟩, ⟨.t 33, .bin .lss (.t 32) (.c (.v (.int .i64 0))),
    some (.t 21, true)⟩, nn (.t 34) (.pick (.t 21) (.t 33) (.c (.v (.bool false))))] []).seq (PC.cond (.t 34) PC.skip (PC.exit 2))).seq ((PC.block 3
    (PC.regD 0 [mm 37 0, mm 38 9, mm 39 0, mm 40 9, nn (.t 41) (.bin .sub (.t 40) (.c (.v (.int .i64 1)))), mm 42 0, mm 43 9, nn (.t 44) (.bin .sub (.t
    43) (.c (.v (.int .i64 1)))), nn (.t 45) (.iadrS 101 (.t 42) (.t 44)), nn (.t 46) (.load 101 true (.t 45)), mm 47 0, mm 48 9, nn (.t 49) (.iadrS 101
    (.t 47) (.t 48)), nn (.t 50) (.load 101 true (.t 49)), nn (.t 51) (.iadrS 101 (.t 37) (.t 38)), nn .no (.store 101 (.t 51) (.t 46)), nn (.t 52)
    (.iadrS 101 (.t 39) (.t 41)), nn .no (.store 101 (.t 52) (.t 50))] [])).seq (PC.reg [mm 35 9, nn (.t 36) (.bin .sub (.t 35) (.c (.v (.int .i64 1)))),
    ma 9 36]))
def lp121_1 : PC :=
  ((PC.reg [mm 12 8, mm 13 2, nn (.t 14) (.bin .lss (.t 12) (.t 13))]).seq (PC.cond (.t 14) PC.skip (PC.exit 0))).seq ((PC.block 1 ((PC.reg [nn (.t 17)
    (.mv true (.v 8)), ma 9 17]).seq (PC.block 2 (PC.loop [0, 1, 2, 3, 8, 9] lp121_0)))).seq (PC.reg [mm 15 8, nn (.t 16) (.bin .add (.t 15) (.c (.v
    (.int .i64 1)))), ma 8 16]))
def pf121 : PF :=
  PF.mk 4 10 53 ((PC.reg [mm 10 1, nn (.t 11) (.bin .add (.t 10) (.c (.v (.int .i64 1)))), ma 8 11]).seq (PC.block 0 (PC.loop [0, 1, 2, 3, 8] lp121_1)))
    []
attribute [local irreducible] W Wops WopsD WL Wop WopD
variable {E : Env} {C : Abs.Spec} {l : List (Nat × Spec1)} {G : List (Nat × V)} {Q : R → List (Nat × V) → Prop}
set_option maxHeartbeats 1000000
theorem loopA121 {T : List (Nat × Spec1)} (hT : Sub T l) (hok : (T.all fun p => calleeOk E.P p.1) = true) {id n c a b i f : Nat} {caps : List V} {P : V → Prop} {key : V → Int} {z : V} {QQ : Ex → St → Prop} (hf : KeyFn T f caps P key) {L0 : List V} (hG : Abs.look G id = some (.agg L0)) (hn : n < 1000000000000000) (hnL : n ≤ L0.length)
    {TL U S0 : List V} {x : V} (hTL : TL.length = a) (hPx : P x)
    (hx : ∀ (A B : List V) (j : Nat) ts, (∀ y ∈ A, key y ≤ key x) → (∀ y ∈ B, key x < key y) → A ++ B = S0 → QQ (.exit 2) ⟨[some (.v (.sob id 101 0 n c)), some (.v (.int .i64 (a : Nat))), some (.v (.int .i64 (b : Nat))), some (.v (.fn f caps)), none, none, none, none, some (.v (.int .i64 (i : Nat))), some (.v (.int .i64 (j : Nat)))], ts, [], Abs.upd G id (.agg (TL ++ (A ++ x :: B) ++ U))⟩) :
    ∀ (k : Nat) (A B : List V) (j : Nat), A.length = k → j = a + A.length → A ++ B = S0 → Up key A → (∀ y ∈ A, P y) → (∀ y ∈ B, key x < key y) → RowOk 101 z (TL ++ (A ++ x :: B) ++ U) → (TL ++ (A ++ x :: B) ++ U).length = L0.length → a + A.length < n →
      WL (W E (specOf l) lp121_0) [0, 1, 2, 3, 8, 9] QQ (k + 1) ⟨[some (.v (.sob id 101 0 n c)), some (.v (.int .i64 (a : Nat))), some (.v (.int .i64 (b : Nat))), some (.v (.fn f caps)), none, none, none, none, some (.v (.int .i64 (i : Nat))), some (.v (.int .i64 (j : Nat)))], [], [], Abs.upd G id (.agg (TL ++ (A ++ x :: B) ++ U))⟩ := by
  intro k
  induction k with
  | zero =>
    rintro A B j hk rfl hS hu hP hB hR hlen hlt
    have : A = [] := List.eq_nil_of_length_eq_zero hk
    subst this
    have c1 : ¬ ((a + 0 : Nat) : Int) > (a : Int) := by omega
    refine WL_in lp121_0.eq_1 ?_
    have hq := hx [] B (a + 0)
    simp only [List.length_nil] at hq ⊢
    simp (maxSteps := 1000000) (implicitDefEqProofs := false) only [c1, Int.lt_irrefl, go_sem, ↓reduceIte]
    exact hq _ (fun y hy => by simp at hy) hB hS
  | succ k ih =>
    rintro A B j hk rfl hS hu hP hB hR hlen hlt
    rcases concat_cases A with rfl | ⟨A', y, rfl⟩
    · simp at hk
    have hA' : A'.length = k := by simpa using hk
    have hq := hx (A' ++ [y]) B (a + (A'.length + 1))
    have ih2 := ih A' (y :: B) (a + A'.length) hA' rfl
    have hl : (A' ++ [y]).length = A'.length + 1 := by simp
    rw [hl] at hlt ⊢
    have e0 : TL ++ ((A' ++ [y]) ++ x :: B) ++ U = (TL ++ A') ++ y :: x :: (B ++ U) := by simp
    have e1 : TL ++ (A' ++ x :: y :: B) ++ U = (TL ++ A') ++ x :: y :: (B ++ U) := by simp
    rw [e1] at ih2
    rw [e0] at hq hR hlen ⊢
    have lTA : (TL ++ A').length = a + A'.length := by simp [hTL]
    have g1 : ((TL ++ A') ++ y :: x :: (B ++ U))[a + (A'.length + 1)]? = some x := get_mid2 (by omega)
    have g0 : ((TL ++ A') ++ y :: x :: (B ++ U))[a + A'.length]? = some y := get_mid (by omega)
    have sw : (((TL ++ A') ++ y :: x :: (B ++ U)).set (a + (A'.length + 1)) y).set (a + A'.length) x = (TL ++ A') ++ x :: y :: (B ++ U) := swap_mid (by omega) (by omega)
    have hRs : RowOk 101 z ((TL ++ A') ++ x :: y :: (B ++ U)) := hR.mem fun w hw => by
      simp only [List.mem_append, List.mem_cons] at hw ⊢
      rcases hw with h | h | h | h <;> simp [h]
    have hls : ((TL ++ A') ++ x :: y :: (B ++ U)).length = L0.length := by rw [← hlen]; simp
    have hPy : P y := hP y (by simp)
    generalize hL : (TL ++ A') ++ y :: x :: (B ++ U) = L at *
    have hcur : Abs.look (Abs.upd G id (.agg L)) id = some (.agg L) := look_upd_same hG
    have s1 := hR.get g1
    have s0 := hR.get g0
    have m01 := hR.same g0 g1
    have m10 := hR.same g1 g0
    have g1' : (L.set (a + (A'.length + 1)) y)[a + A'.length]? = some y := by rw [List.getElem?_set_ne (by omega)]; exact g0
    have hcur2 : Abs.look (Abs.upd G id (.agg (L.set (a + (A'.length + 1)) y))) id = some (.agg (L.set (a + (A'.length + 1)) y)) := look_upd_same hG
    have c1 : ((a + (A'.length + 1) : Nat) : Int) > (a : Int) := by omega
    have hln : a + (A'.length + 1) < L.length := by omega
    have ew : IntKind.i64.wrap (((a + (A'.length + 1) : Nat) : Int) - 1) = ((a + A'.length : Nat) : Int) := by rw [show (((a + (A'.length + 1) : Nat) : Int) - 1) = ((a + A'.length : Nat) : Int) by omega]; exact w64 (by omega) (by omega)
    have hsz := hR.sizes
    refine WL_in lp121_0.eq_1 ?_
    have a1 := s1.2.1
    have a0 := s0.2.1
    unfold V.isAgg at a1 a0
    simp (maxSteps := 1000000) (implicitDefEqProofs := false) only [c1, ew, hcur, g1, g0, s1.1, s0.1, a1, a0, Int.toNat_natCast, go_sem, ↓reduceIte]
    refine ⟨⟨⟨by omega, by omega⟩, by omega, hsz⟩, ⟨⟨by omega, by omega⟩, by omega, hsz⟩, ok_of hok hf.1, hT.run hf.1 (hf.2 x y _ _ hPx hPy fun r hr => ⟨rfl, ?_⟩)⟩
    by_cases hk : key x < key y
    · have hr1 : r < 0 := hr.2 hk
      have ew2 : IntKind.i64.wrap (((a + (A'.length + 1) : Nat) : Int) - 1) = ((a + A'.length : Nat) : Int) := ew
      have hsz2 := (hR.set (i := a + (A'.length + 1)) g0).sizes
      simp (maxSteps := 1000000) (implicitDefEqProofs := false) only [hr1, ew, hcur, hcur2, g1, g0, g1', s1.1, s0.1, a1, a0, m01, m10, sw, Int.toNat_natCast, upd_upd, go_sem, ↓reduceIte]
      exact ⟨⟨⟨by omega, by omega⟩, by omega, hsz⟩, ⟨⟨by omega, by omega⟩, by omega, hsz⟩, ⟨⟨by omega, by omega⟩, by omega, hsz⟩, ⟨⟨by omega, by omega⟩, by rw [List.length_set]; omega, hsz2⟩, ih2 (by rw [← hS]; simp) (up_init hu) (fun w hw => hP w (by simp [hw])) (fun w hw => (List.mem_cons.1 hw).elim (fun e => e ▸ hk) (hB w)) hRs hls (by omega)⟩
    · have hr1 : ¬ r < 0 := fun h => hk (hr.1 h)
      simp (maxSteps := 1000000) (implicitDefEqProofs := false) only [hr1, go_sem, ↓reduceIte]
      exact hq _ (up_last hu (by omega)) hB hS
theorem loopB121 {T : List (Nat × Spec1)} (hT : Sub T l) (hok : (T.all fun p => calleeOk E.P p.1) = true) {id n c a b f : Nat} {caps : List V} {P : V → Prop} {key : V → Int} {z : V} {QQ : Ex → St → Prop} (hf : KeyFn T f caps P key) {L0 : List V} (hG : Abs.look G id = some (.agg L0)) (hn : n < 1000000000000000) (hnL : n ≤ L0.length)
    {TL : List V} (hTL : TL.length = a) (hbn : b ≤ n)
    (hx : ∀ (L : List V) ts, (∃ S R, L = TL ++ srt key S ++ R ∧ L0 = TL ++ S ++ R ∧ (a + S.length = b ∨ b < a ∧ S = [])) → QQ (.exit 0) ⟨[some (.v (.sob id 101 0 n c)), some (.v (.int .i64 (a : Nat))), some (.v (.int .i64 (b : Nat))), some (.v (.fn f caps)), none, none, none, none, some (.v (.int .i64 (b : Nat))), none], ts, [], Abs.upd G id (.agg L)⟩) :
    ∀ (k : Nat) (S R : List V) (G2 : List (Nat × V)), G2 = Abs.upd G id (.agg (TL ++ srt key S ++ R)) → 0 < S.length → a + S.length + k = b → L0 = TL ++ S ++ R → (∀ y ∈ L0, P y) → RowOk 101 z L0 →
      WL (W E (specOf l) lp121_1) [0, 1, 2, 3, 8] QQ (k + 1) ⟨[some (.v (.sob id 101 0 n c)), some (.v (.int .i64 (a : Nat))), some (.v (.int .i64 (b : Nat))), some (.v (.fn f caps)), none, none, none, none, some (.v (.int .i64 ((a + S.length : Nat) : Int))), none], [], [], G2⟩ := by
  intro k
  induction k with
  | zero =>
    rintro S R G2 rfl h0 hk hL hP hR
    have c1 : ¬ ((a + S.length : Nat) : Int) < (b : Int) := by omega
    have hq := hx (TL ++ srt key S ++ R)
    have e : a + S.length = b := by omega
    refine WL_in lp121_1.eq_1 ?_
    rw [e] at c1 ⊢
    simp (maxSteps := 1000000) (implicitDefEqProofs := false) only [Int.lt_irrefl, go_sem, ↓reduceIte]
    exact hq _ ⟨S, R, rfl, hL, .inl e⟩
  | succ k ih =>
    rintro S R G2 rfl h0 hk hL hP hR
    have c1 : ((a + S.length : Nat) : Int) < (b : Int) := by omega
    have hll := congrArg List.length hL
    simp only [List.length_append] at hll
    obtain ⟨x, U, rfl⟩ : ∃ x U, R = x :: U := by
      cases R with
      | nil => simp at hll; omega
      | cons x U => exact ⟨x, U, rfl⟩
    have hm : ∀ w ∈ TL ++ (srt key S ++ [] ++ x :: []) ++ U, w ∈ L0 := by
      intro w hw
      rw [hL]
      simp only [List.append_nil, List.mem_append, List.mem_cons, List.mem_singleton, List.not_mem_nil, or_false, mem_srt] at hw ⊢
      rcases hw with (h | h | h) | h <;> simp [h]
    have hl2 : (TL ++ (srt key S ++ x :: []) ++ U).length = L0.length := by
      simp only [List.length_append, srt_length, List.length_cons, List.length_nil] at hll ⊢; omega
    have ew : IntKind.i64.wrap (((a + S.length : Nat) : Int) + 1) = ((a + (S ++ [x]).length : Nat) : Int) := by
      rw [show (((a + S.length : Nat) : Int) + 1) = ((a + (S ++ [x]).length : Nat) : Int) by rw [List.length_append]; simp; omega]; exact w64 (by omega) (by rw [List.length_append]; simp; omega)
    have next := ih (S ++ [x]) U _ rfl (by simp) (by rw [List.length_append]; simp; omega) (by rw [hL]; simp) hP hR
    have el : (S ++ [x]).length = S.length + 1 := by simp
    rw [el] at next ew
    have e1 : TL ++ srt key S ++ x :: U = TL ++ (srt key S ++ x :: []) ++ U := by simp
    refine WL_in lp121_1.eq_1 ?_
    simp (maxSteps := 1000000) (implicitDefEqProofs := false) only [c1, go_sem, ↓reduceIte]
    refine ⟨(srt key S).length + 1, ?_⟩
    simp (maxSteps := 1000000) (implicitDefEqProofs := false) only [go_sem, ↓reduceIte]
    rw [e1]
    refine loopA121 (E := E) (G := G) (c := c) (b := b) (i := a + S.length) (U := U) (z := z) (TL := TL) (x := x) (S0 := srt key S) hT hok hf hG hn hnL hTL (hP x (by rw [hL]; simp)) ?_ (srt key S).length (srt key S) [] (a + S.length) rfl (by rw [srt_length]) (by simp) (up_srt _) (fun y hy => hP y (by rw [hL]; simp [mem_srt.1 hy])) (fun y hy => by simp at hy) (hR.mem fun w hw => hm w (by simpa using hw)) hl2 (by rw [srt_length]; omega)
    intro A B j ts hA hB hAB
    have e3 : A ++ x :: B = srt key (S ++ [x]) := srt_put hAB hA hB
    simp (maxSteps := 1000000) (implicitDefEqProofs := false) only [ew, go_sem, ↓reduceIte]
    rw [e3]
    exact next
theorem walk121 {T : List (Nat × Spec1)} (hT : Sub T l) (hok : (T.all fun p => calleeOk E.P p.1) = true) {id n c a b f : Nat} {caps : List V} {P : V → Prop} {key : V → Int} {z : V} (hf : KeyFn T f caps P key) {L0 : List V} (hG : Abs.look G id = some (.agg L0)) (hn : n < 1000000000000000) (hnL : n ≤ L0.length)
    (hab : a ≤ b) (hbn : b ≤ n) (hP : ∀ y ∈ L0, P y) (hR : RowOk 101 z L0) (h : Q (.tup []) (Abs.upd G id (.agg (L0.take a ++ srt key ((L0.take b).drop a) ++ L0.drop b)))) :
    Wf E (specOf l) pf121 [.sob id 101 0 n c, .int .i64 (a : Nat), .int .i64 (b : Nat), .fn f caps] G Q := by
  have hb : b ≤ L0.length := by omega
  have dec : ∀ S R, L0 = L0.take a ++ S ++ R → a + S.length = b → L0.take a ++ srt key S ++ R = L0.take a ++ srt key ((L0.take b).drop a) ++ L0.drop b := by
    intro S R e1 e2
    have lt : (L0.take a).length = a := by rw [List.length_take]; omega
    have e3 : L0.take b = L0.take a ++ S := by
      conv => lhs; rw [e1]
      rw [List.take_append_of_le_length (by rw [List.length_append, lt]; omega), List.take_of_length_le (by rw [List.length_append, lt]; omega)]
    have e4 : L0.drop b = R := by
      conv => lhs; rw [e1]
      rw [List.drop_append_of_le_length (by rw [List.length_append, lt]; omega), List.drop_of_length_le (by rw [List.length_append, lt]; omega), List.nil_append]
    rw [e3, e4, List.drop_append_of_le_length (by omega), List.drop_of_length_le (by omega), List.nil_append]
  have ew : IntKind.i64.wrap ((a : Int) + 1) = ((a + 1 : Nat) : Int) := by rw [show ((a : Int) + 1) = ((a + 1 : Nat) : Int) by omega]; exact w64 (by omega) (by omega)
  simp (maxSteps := 1000000) (implicitDefEqProofs := false) only [pf121, ew, go_sem, ↓reduceIte]
  by_cases hab2 : a < b
  · refine ⟨b - (a + 1) + 1, ?_⟩
    simp (maxSteps := 1000000) (implicitDefEqProofs := false) only [go_sem, ↓reduceIte]
    have hx : L0.drop a = L0[a] :: L0.drop (a + 1) := List.drop_eq_getElem_cons (by omega)
    have eL : L0 = L0.take a ++ [L0[a]] ++ L0.drop (a + 1) := by
      conv => lhs; rw [← List.take_append_drop a L0, hx]
      simp
    refine loopB121 (E := E) (G := G) (c := c) (b := b) (z := z) hT hok hf hG hn hnL (TL := L0.take a) (List.length_take_of_le (by omega)) hbn ?_ (b - (a + 1)) [L0[a]] (L0.drop (a + 1)) G ?_ (by simp) (by simp only [List.length_cons, List.length_nil]; omega) eL hP hR
    · intro L ts hh
      obtain ⟨S, R, rfl, e1, e2⟩ := hh
      rcases e2 with e2 | e2
      · simp (maxSteps := 1000000) (implicitDefEqProofs := false) only [go_sem, ↓reduceIte]
        rw [dec S R e1 e2]
        exact h
      · omega
    · show G = Abs.upd G id (.agg (L0.take a ++ [L0[a]] ++ L0.drop (a + 1)))
      rw [← eL, upd_self hG]
  · obtain rfl : a = b := by omega
    refine ⟨1, ?_⟩
    refine WL_in lp121_1.eq_1 ?_
    have c1 : ¬ ((a + 1 : Nat) : Int) < (a : Int) := by omega
    simp (maxSteps := 1000000) (implicitDefEqProofs := false) only [c1, go_sem, ↓reduceIte]
    have e := dec [] (L0.drop a) (by simp) (by simp)
    rw [← e] at h
    have e5 : L0.take a ++ srt key ([] : List V) ++ L0.drop a = L0 := by
      show L0.take a ++ [] ++ L0.drop a = L0
      simp
    rw [e5, upd_self hG] at h
    exact h
end Go.Proofs.YtegamlopcdjiaaaDoor.Sha
