/- The counter: its functions. -/
import Derived.Test.YtcicoepkmiahbaaPlain5
namespace Go.Proofs.Ytcicoepkmiahbaa.Cnt
open Go Go.Abs
set_option linter.unusedSimpArgs false
set_option linter.unusedVariables false
set_option maxRecDepth 100000
def pf26 : PF :=
  PF.mk 1 5 19 ((PC.reg [⟨.v 2, .mv true (.c (.v .nilp)), none⟩, ⟨.v 3, .mv true (.c (.v (.int .i64 0))), none⟩]).seq (((PC.reg [⟨.t 5, .mv false (.v 0),
    none⟩, ⟨.t 6, .bin .lss (.t 5) (.c (.v (.int .i64 0))), none⟩, ⟨.t 7, .mv false (.t 6), none⟩, ⟨.t 8, .mv false (.v 0), some (.t 7, false)⟩, ⟨.t 9,
    .bin .gtr (.t 8) (.c (.v (.int .i64 1099511627776))), some (.t 7, false)⟩, ⟨.t 10, .pick (.t 7) (.c (.v (.bool true))) (.t 9), none⟩]).seq (PC.cond
    (.t 10) ((PC.reg [⟨.v 2, .mv true (.c (.v .nilp)), none⟩, ⟨.v 3, .mv true (.c (.v (.int .i64 1))), none⟩]).seq PC.ret) PC.skip)).seq ((PC.reg [⟨.t
    11, .build (.agg [.agg [.agg [], .agg [], .int .i64 0], .bool false]) [(1, .c (.v (.bool true)))], none⟩, ⟨.t 12, .newB (.t 11), none⟩, ⟨.v 4, .mv
    true (.t 12), none⟩]).seq ((PC.reg [⟨.t 13, .mv false (.v 4), none⟩, ⟨.t 14, .nilc (.t 13), none⟩, ⟨.t 15, .fad0 (.t 14), none⟩, ⟨.t 16, .mv false
    (.v 0), none⟩, ⟨.t 17, .call 44 [.t 15, .t 16], none⟩]).seq ((PC.reg [⟨.t 18, .mv false (.v 4), none⟩, ⟨.v 2, .mv true (.t 18), none⟩, ⟨.v 3, .mv
    true (.c (.v (.int .i64 0))), none⟩]).seq PC.ret))))) [(.v 2, none), (.v 3, none)]
def pf27 : PF :=
  PF.mk 0 5 33 ((PC.reg [⟨.v 0, .mv true (.c (.v (.bool false))), none⟩]).seq ((PC.reg [⟨.t 6, .call 26 [.c (.v (.int .i64 0))], none⟩, ⟨.t 5, .mv false
    (.t 6), none⟩, ⟨.t 7, .ext (.t 5) 0, none⟩, ⟨.t 8, .ext (.t 5) 1, none⟩, ⟨.v 1, .mv true (.t 7), none⟩, ⟨.v 2, .mv true (.t 8), none⟩]).seq ((PC.reg
    [⟨.t 10, .mv false (.v 1), none⟩, ⟨.t 11, .call 28 [.t 10], none⟩, ⟨.t 9, .mv false (.t 11), none⟩, ⟨.t 12, .ext (.t 9) 0, none⟩, ⟨.t 13, .ext (.t 9)
    1, none⟩, ⟨.v 3, .mv true (.t 12), none⟩, ⟨.v 4, .mv true (.t 13), none⟩]).seq ((PC.reg [⟨.t 14, .mv false (.v 2), none⟩, ⟨.t 15, .bin .eql (.t 14)
    (.c (.v (.int .i64 0))), none⟩, ⟨.t 16, .mv false (.t 15), none⟩, ⟨.t 17, .mv false (.v 1), some (.t 16, true)⟩, ⟨.t 18, .binP .neq (.t 17) (.c (.v
    .nilp)), some (.t 16, true)⟩, ⟨.t 19, .pick (.t 16) (.t 18) (.c (.v (.bool false))), none⟩, ⟨.t 20, .mv false (.t 19), none⟩, ⟨.t 21, .mv false (.v
    4), some (.t 20, true)⟩, ⟨.t 22, .bin .eql (.t 21) (.c (.v (.int .i64 0))), some (.t 20, true)⟩, ⟨.t 23, .pick (.t 20) (.t 22) (.c (.v (.bool
    false))), none⟩, ⟨.t 24, .mv false (.t 23), none⟩, ⟨.t 25, .mv false (.v 3), some (.t 24, true)⟩, ⟨.t 26, .bin .eql (.t 25) (.c (.v (.int .i64 1))),
    some (.t 24, true)⟩, ⟨.t 27, .pick (.t 24) (.t 26) (.c (.v (.bool false))), none⟩, ⟨.t 28, .mv false (.t 27), none⟩, ⟨.t 29, .mv false (.v 1), some
    (.t 28, true)⟩, ⟨.t 30, .call 30 [.t 29], some (.t 28, true)⟩, ⟨.t 31, .bin .eql (.t 30) (.c (.v (.int .i64 1))), some (.t 28, true)⟩, ⟨.t 32, .pick
    (.t 28) (.t 31) (.c (.v (.bool false))), none⟩, ⟨.v 0, .mv true (.t 32), none⟩]).seq PC.ret)))) [(.v 0, none)]
def pf28 : PF :=
  PF.mk 1 4 22 ((PC.reg [⟨.v 2, .mv true (.c (.v (.int .i64 0))), none⟩, ⟨.v 3, .mv true (.c (.v (.int .i64 0))), none⟩]).seq ((PC.block 0 ((PC.reg [⟨.t
    5, .mv false (.v 0), none⟩, ⟨.t 6, .binP .eql (.t 5) (.c (.v .nilp)), none⟩, ⟨.t 7, .mv false (.t 6), none⟩, ⟨.t 8, .mv false (.v 0), some (.t 7,
    false)⟩, ⟨.t 9, .nilc (.t 8), some (.t 7, false)⟩, ⟨.t 10, .fadr 1 1 (.t 9), some (.t 7, false)⟩, ⟨.t 11, .load 1 false (.t 10), some (.t 7, false)⟩,
    ⟨.t 12, .un .not (.t 11), some (.t 7, false)⟩, ⟨.t 13, .pick (.t 7) (.c (.v (.bool true))) (.t 12), none⟩, ⟨.t 4, .mv true (.t 13), none⟩]).seq
    (PC.cond (.t 4) ((PC.reg [⟨.v 2, .mv true (.c (.v (.int .i64 0))), none⟩, ⟨.v 3, .mv true (.c (.v (.int .i64 5))), none⟩]).seq PC.ret) ((PC.reg [⟨.t
    15, .mv false (.v 0), none⟩, ⟨.t 16, .call 30 [.t 15], none⟩, ⟨.t 17, .bin .eql (.t 16) (.c (.v (.int .i64 1099511627776))), none⟩, ⟨.t 14, .mv true
    (.t 17), none⟩]).seq (PC.cond (.t 14) ((PC.reg [⟨.v 2, .mv true (.c (.v (.int .i64 0))), none⟩, ⟨.v 3, .mv true (.c (.v (.int .i64 9))), none⟩]).seq
    PC.ret) PC.skip))))).seq ((PC.reg [⟨.t 18, .mv false (.v 0), none⟩, ⟨.t 19, .nilc (.t 18), none⟩, ⟨.t 20, .fad0 (.t 19), none⟩, ⟨.t 21, .call 45 [.t
    20, .c (.v (.int .i64 1))], none⟩, ⟨.v 2, .mv true (.t 21), none⟩, ⟨.v 3, .mv true (.c (.v (.int .i64 0))), none⟩]).seq PC.ret))) [(.v 2, none), (.v
    3, none)]
def pf29 : PF :=
  PF.mk 1 4 9 ((PC.reg [⟨.v 2, .mv true (.c (.v (.int .i64 0))), none⟩, ⟨.v 3, .mv true (.c (.v (.int .i64 0))), none⟩]).seq (((PC.reg [⟨.t 4, .mv false
    (.v 0), none⟩, ⟨.t 5, .bin .geq (.t 4) (.c (.v (.int .i64 1099511627776))), none⟩]).seq (PC.cond (.t 5) ((PC.reg [⟨.t 6, .mv false (.v 0), none⟩, ⟨.v
    2, .mv true (.t 6), none⟩, ⟨.v 3, .mv true (.c (.v (.int .i64 9))), none⟩]).seq PC.ret) PC.skip)).seq ((PC.reg [⟨.t 7, .mv false (.v 0), none⟩, ⟨.t
    8, .bin .add (.t 7) (.c (.v (.int .i64 1))), none⟩, ⟨.v 2, .mv true (.t 8), none⟩, ⟨.v 3, .mv true (.c (.v (.int .i64 0))), none⟩]).seq PC.ret)))
    [(.v 2, none), (.v 3, none)]
def pf30 : PF :=
  PF.mk 1 3 9 ((PC.reg [⟨.v 2, .mv true (.c (.v (.int .i64 0))), none⟩]).seq (((PC.reg [⟨.t 3, .mv false (.v 0), none⟩, ⟨.t 4, .binP .eql (.t 3) (.c (.v
    .nilp)), none⟩]).seq (PC.cond (.t 4) ((PC.reg [⟨.v 2, .mv true (.c (.v (.int .i64 0))), none⟩]).seq PC.ret) PC.skip)).seq ((PC.reg [⟨.t 5, .mv false
    (.v 0), none⟩, ⟨.t 6, .nilc (.t 5), none⟩, ⟨.t 7, .fad0 (.t 6), none⟩, ⟨.t 8, .call 46 [.t 7], none⟩, ⟨.v 2, .mv true (.t 8), none⟩]).seq PC.ret)))
    [(.v 2, none)]
def pf31 : PF :=
  PF.mk 1 4 21 ((PC.reg [⟨.v 2, .mv true (.c (.v .nilp)), none⟩]).seq (((PC.reg [⟨.t 5, .mv false (.v 0), none⟩, ⟨.t 6, .binP .eql (.t 5) (.c (.v
    .nilp)), none⟩, ⟨.t 7, .mv false (.t 6), none⟩, ⟨.t 8, .mv false (.v 0), some (.t 7, false)⟩, ⟨.t 9, .nilc (.t 8), some (.t 7, false)⟩, ⟨.t 10, .fadr
    1 1 (.t 9), some (.t 7, false)⟩, ⟨.t 11, .load 1 false (.t 10), some (.t 7, false)⟩, ⟨.t 12, .un .not (.t 11), some (.t 7, false)⟩, ⟨.t 13, .pick (.t
    7) (.c (.v (.bool true))) (.t 12), none⟩]).seq (PC.cond (.t 13) ((PC.reg [⟨.v 2, .mv true (.c (.v .nilp)), none⟩]).seq PC.ret) PC.skip)).seq ((PC.reg
    [⟨.t 15, .mv false (.v 0), none⟩, ⟨.t 16, .call 30 [.t 15], none⟩, ⟨.t 17, .call 26 [.t 16], none⟩, ⟨.t 14, .mv false (.t 17), none⟩, ⟨.t 18, .ext
    (.t 14) 0, none⟩, ⟨.t 19, .ext (.t 14) 1, none⟩, ⟨.v 3, .mv true (.t 18), none⟩, ⟨.t 4, .mv true (.t 19), none⟩]).seq ((PC.reg [⟨.t 20, .mv true (.v
    3), none⟩, ⟨.v 2, .mv true (.t 20), none⟩]).seq PC.ret)))) [(.v 2, none)]
def pf44 : PF :=
  PF.mk 2 2 9 (PC.reg [⟨.t 4, .mv false (.v 0), none⟩, ⟨.t 5, .nilc (.t 4), none⟩, ⟨.t 6, .fadr 2 0 (.t 5), none⟩, ⟨.t 7, .mv false (.v 1), none⟩, ⟨.t 8,
    .atSt (.t 6) (.t 7), none⟩]) []
def pf45 : PF :=
  PF.mk 2 5 10 ((PC.reg [⟨.v 4, .mv true (.c (.v (.int .i64 0))), none⟩]).seq ((PC.reg [⟨.t 5, .mv false (.v 0), none⟩, ⟨.t 6, .nilc (.t 5), none⟩, ⟨.t
    7, .fadr 2 0 (.t 6), none⟩, ⟨.t 8, .mv false (.v 1), none⟩, ⟨.t 9, .atAdd (.t 7) (.t 8), none⟩, ⟨.v 4, .mv true (.t 9), none⟩]).seq PC.ret)) [(.v 4,
    none)]
def pf46 : PF :=
  PF.mk 1 3 7 ((PC.reg [⟨.v 2, .mv true (.c (.v (.int .i64 0))), none⟩]).seq ((PC.reg [⟨.t 3, .mv false (.v 0), none⟩, ⟨.t 4, .nilc (.t 3), none⟩, ⟨.t 5,
    .fadr 2 0 (.t 4), none⟩, ⟨.t 6, .atLd (.t 5), none⟩, ⟨.v 2, .mv true (.t 6), none⟩]).seq PC.ret)) [(.v 2, none)]
attribute [local irreducible] W Wops WopsD WL Wop WopD
variable {E : Env} {C : Abs.Spec} {l : List (Nat × Spec1)} {G : List (Nat × V)} {Q : R → List (Nat × V) → Prop}
set_option maxHeartbeats 1000000
abbrev CT (a : Int) (b : Bool) : V := .agg [.agg [.agg [], .agg [], .int .i64 (a)], .bool (b)]
def mxC : Int := 1099511627776
/-- A counter, or nobody's. -/
def CV (G : List (Nat × V)) (x : V) (a : Int) (b : Bool) : Prop := (x = .nilp ∧ a = 0 ∧ b = false) ∨ ∃ id, x = .ptr id ∧ Abs.look G id = some (CT a b)
def updC (G : List (Nat × V)) (x : V) (a : Int) (b : Bool) : List (Nat × V) := match x with
  | .ptr id => upd G id (CT a b)
  | _ => G
def upN (a : Int) (b : Bool) : Int := if b = true then (if a = 1099511627776 then 0 else a + 1) else 0
def upE (a : Int) (b : Bool) : Int := if b = true then (if a = 1099511627776 then 9 else 0) else 5
def upA (a : Int) (b : Bool) : Int := if b = true then (if a = 1099511627776 then a else a + 1) else a
def okC (a : Int) : Prop := 0 ≤ a ∧ a ≤ 1099511627776
instance (a : Int) : Decidable (okC a) := by unfold okC; infer_instance
theorem detIfN {c : Prop} {Q : R → Prop} {G : List (Nat × V)} {x : Nat → V} {a : Nat → R} {b : R} (h : (c → ∀ id, Abs.look G id = none → ((id, x id) :: G) = G ∧ Q (a id)) ∧ (¬ c → G = G ∧ Q b)) :
    ∃ r, Q r ∧ ∀ Q' : R → List (Nat × V) → Prop, Q' r G → (c → ∀ id, Abs.look G id = none → Q' (a id) ((id, x id) :: G)) ∧ (¬ c → Q' b G) := by
  by_cases hc : c
  · exact detN (h.1 hc)
  · exact ⟨b, (h.2 hc).2, fun Q' h' => ⟨fun n => absurd n hc, fun _ => h'⟩⟩
def S44 : Spec1
  | [.ptr id, .int .i64 n], G, Q => ∃ a b, Abs.look G id = some (CT a b) ∧ Q (.tup []) (upd G id (CT n b))
  | _, _, _ => False
theorem S44_eq {id n} : S44 [.ptr id, .int .i64 n] G Q = (∃ a b, Abs.look G id = some (CT a b) ∧ Q (.tup []) (upd G id (CT n b))) := rfl
def S45 : Spec1
  | [.ptr id, .int .i64 n], G, Q => ∃ a b, Abs.look G id = some (CT a b) ∧ Q (.v (.int .i64 (IntKind.i64.wrap (a + n)))) (upd G id (CT (IntKind.i64.wrap (a + n)) b))
  | _, _, _ => False
theorem S45_eq {id n} : S45 [.ptr id, .int .i64 n] G Q = (∃ a b, Abs.look G id = some (CT a b) ∧ Q (.v (.int .i64 (IntKind.i64.wrap (a + n)))) (upd G id (CT (IntKind.i64.wrap (a + n)) b))) := rfl
def S46 : Spec1
  | [.ptr id], G, Q => ∃ a b, Abs.look G id = some (CT a b) ∧ Q (.v (.int .i64 a)) G
  | _, _, _ => False
theorem S46_eq {id} : S46 [.ptr id] G Q = (∃ a b, Abs.look G id = some (CT a b) ∧ Q (.v (.int .i64 a)) G) := rfl
def S30 : Spec1
  | [x], G, Q => ∃ a b, CV G x a b ∧ Q (.v (.int .i64 a)) G
  | _, _, _ => False
theorem S30_eq {x} : S30 [x] G Q = (∃ a b, CV G x a b ∧ Q (.v (.int .i64 a)) G) := rfl
def S28 : Spec1
  | [x], G, Q => ∃ a b, (CV G x a b ∧ (b = true → okC a)) ∧ Q (.tup [.int .i64 (upN a b), .int .i64 (upE a b)]) (updC G x (upA a b) b)
  | _, _, _ => False
theorem S28_eq {x} : S28 [x] G Q = (∃ a b, (CV G x a b ∧ (b = true → okC a)) ∧ Q (.tup [.int .i64 (upN a b), .int .i64 (upE a b)]) (updC G x (upA a b) b)) := rfl
def S26 : Spec1
  | [.int .i64 n], G, Q => (okC n → ∀ id, Abs.look G id = none → Q (.tup [.ptr id, .int .i64 0]) ((id, CT n true) :: G)) ∧ (¬ okC n → Q (.tup [.nilp, .int .i64 1]) G)
  | _, _, _ => False
theorem S26_eq {n} : S26 [.int .i64 n] G Q = ((okC n → ∀ id, Abs.look G id = none → Q (.tup [.ptr id, .int .i64 0]) ((id, CT n true) :: G)) ∧ (¬ okC n → Q (.tup [.nilp, .int .i64 1]) G)) := rfl
def S29 : Spec1
  | [.int .i64 w], G, Q => okC w ∧ Q (.tup [.int .i64 (upA w true), .int .i64 (upE w true)]) G
  | _, _, _ => False
theorem S29_eq {w} : S29 [.int .i64 w] G Q = (okC w ∧ Q (.tup [.int .i64 (upA w true), .int .i64 (upE w true)]) G) := rfl
def S31 : Spec1
  | [x], G, Q => ∃ a b, CV G x a b ∧ ((b = true ∧ okC a → ∀ id, Abs.look G id = none → Q (.v (.ptr id)) ((id, CT a true) :: G)) ∧ (¬ (b = true ∧ okC a) → Q (.v .nilp) G))
  | _, _, _ => False
theorem S31_eq {x} : S31 [x] G Q = (∃ a b, CV G x a b ∧ ((b = true ∧ okC a → ∀ id, Abs.look G id = none → Q (.v (.ptr id)) ((id, CT a true) :: G)) ∧ (¬ (b = true ∧ okC a) → Q (.v .nilp) G))) := rfl
def S27 : Spec1
  | [], G, Q => ∀ id, Abs.look G id = none → Q (.v (.bool true)) ((id, CT 1 true) :: G)
  | _, _, _ => False
theorem S27_eq {G : List (Nat × V)} {Q : R → List (Nat × V) → Prop} : S27 [] G Q = (∀ id, Abs.look G id = none → Q (.v (.bool true)) ((id, CT 1 true) :: G)) := rfl
theorem detS26 : S26.Det := by
  intro vs G Q h
  unfold S26 at h ⊢
  split at h
  · exact detIfN (x := fun _ => _) (a := fun id => .tup [.ptr id, .int .i64 0]) h
  · exact h.elim
theorem detS31 : S31.Det := by
  intro vs G Q h
  unfold S31 at h ⊢
  split at h
  · obtain ⟨a, b, hx, h⟩ := h
    obtain ⟨r, h1, h2⟩ := detIfN (x := fun _ => _) (a := fun id => .v (.ptr id)) h
    exact ⟨r, h1, fun Q' h' => ⟨a, b, hx, h2 Q' h'⟩⟩
  · exact h.elim
theorem walk44 {id : Nat} {n a : Int} {b : Bool} (hL : Abs.look G id = some (CT a b)) (h : Q (.tup []) (upd G id (CT n b))) : Wf E C pf44 [.ptr id, .int .i64 n] G Q := by
  simp (maxSteps := 1000000) (implicitDefEqProofs := false) only [pf44, hL, go_sem, ↓reduceIte, decide_eq_true_eq, decide_eq_false_iff_not, ge_iff_le, gt_iff_lt, Int.not_le, Int.not_lt, Bool.not_eq_true', Bool.not_eq_false', Bool.and_eq_true, Bool.and_eq_false_iff]
  exact h
theorem walk45 {id : Nat} {n a : Int} {b : Bool} (hL : Abs.look G id = some (CT a b)) (h : Q (.v (.int .i64 (IntKind.i64.wrap (a + n)))) (upd G id (CT (IntKind.i64.wrap (a + n)) b))) : Wf E C pf45 [.ptr id, .int .i64 n] G Q := by
  simp (maxSteps := 1000000) (implicitDefEqProofs := false) only [pf45, hL, go_sem, ↓reduceIte, decide_eq_true_eq, decide_eq_false_iff_not, ge_iff_le, gt_iff_lt, Int.not_le, Int.not_lt, Bool.not_eq_true', Bool.not_eq_false', Bool.and_eq_true, Bool.and_eq_false_iff]
  exact h
theorem walk46 {id : Nat} {a : Int} {b : Bool} (hL : Abs.look G id = some (CT a b)) (h : Q (.v (.int .i64 a)) G) : Wf E C pf46 [.ptr id] G Q := by
  simp (maxSteps := 1000000) (implicitDefEqProofs := false) only [pf46, hL, go_sem, ↓reduceIte, decide_eq_true_eq, decide_eq_false_iff_not, ge_iff_le, gt_iff_lt, Int.not_le, Int.not_lt, Bool.not_eq_true', Bool.not_eq_false', Bool.and_eq_true, Bool.and_eq_false_iff]
  exact h
theorem walk30 {x : V} {a : Int} {b : Bool} (h46 : Abs.look l 46 = some S46) (hx : CV G x a b) (h : Q (.v (.int .i64 a)) G) : Wf E (specOf l) pf30 [x] G Q := by
  rcases hx with ⟨rfl, rfl, rfl⟩ | ⟨id, rfl, hL⟩
  · simp (maxSteps := 1000000) (implicitDefEqProofs := false) only [pf30, go_sem, ↓reduceIte, decide_eq_true_eq, decide_eq_false_iff_not, ge_iff_le, gt_iff_lt, Int.not_le, Int.not_lt, Bool.not_eq_true', Bool.not_eq_false', Bool.and_eq_true, Bool.and_eq_false_iff]
    exact h
  · simp (maxSteps := 1000000) (implicitDefEqProofs := false) only [pf30, h46, S46_eq, hL, go_sem, ↓reduceIte, decide_eq_true_eq, decide_eq_false_iff_not, ge_iff_le, gt_iff_lt, Int.not_le, Int.not_lt, Bool.not_eq_true', Bool.not_eq_false', Bool.and_eq_true, Bool.and_eq_false_iff]
    exact ⟨a, b, rfl, h⟩
theorem walk29 {w : Int} (hw : okC w) (h : Q (.tup [.int .i64 (upA w true), .int .i64 (upE w true)]) G) : Wf E C pf29 [.int .i64 w] G Q := by
  unfold okC at hw
  unfold upA upE at h
  by_cases e : w = 1099511627776
  · subst e
    simp (maxSteps := 1000000) (implicitDefEqProofs := false) only [pf29, go_sem, ↓reduceIte, decide_eq_true_eq, decide_eq_false_iff_not, ge_iff_le, gt_iff_lt, Int.not_le, Int.not_lt, Bool.not_eq_true', Bool.not_eq_false', Bool.and_eq_true, Bool.and_eq_false_iff]
    exact h
  · rw [if_neg e, if_neg e] at h
    simp (maxSteps := 1000000) (implicitDefEqProofs := false) (disch := omega) only [pf29, go_sem, ↓reduceIte, decide_eq_true_eq, decide_eq_false_iff_not, ge_iff_le, gt_iff_lt, Int.not_le, Int.not_lt, w64, Bool.not_eq_true', Bool.not_eq_false', Bool.and_eq_true, Bool.and_eq_false_iff]
    repeat' first | (intro _) | constructor
    all_goals first | omega | exact h
theorem walk28 {x : V} {a : Int} {b : Bool} (h30 : Abs.look l 30 = some S30) (h45 : Abs.look l 45 = some S45) (hx : CV G x a b) (ha : b = true → okC a) (h : Q (.tup [.int .i64 (upN a b), .int .i64 (upE a b)]) (updC G x (upA a b) b)) : Wf E (specOf l) pf28 [x] G Q := by
  have hx' := hx
  unfold upN upE upA at h
  rcases hx with ⟨rfl, rfl, rfl⟩ | ⟨id, rfl, hL⟩
  · simp (maxSteps := 1000000) (implicitDefEqProofs := false) only [pf28, go_sem, ↓reduceIte, decide_eq_true_eq, decide_eq_false_iff_not, ge_iff_le, gt_iff_lt, Int.not_le, Int.not_lt, Bool.not_eq_true', Bool.not_eq_false', Bool.and_eq_true, Bool.and_eq_false_iff]
    exact h
  · cases b with
    | false =>
      simp (maxSteps := 1000000) (implicitDefEqProofs := false) only [pf28, hL, go_sem, ↓reduceIte, decide_eq_true_eq, decide_eq_false_iff_not, ge_iff_le, gt_iff_lt, Int.not_le, Int.not_lt, Bool.not_eq_true', Bool.not_eq_false', Bool.and_eq_true, Bool.and_eq_false_iff]
      simp only [updC] at h
      have e := upd_self hL
      rw [show (if false = true then (if a = 1099511627776 then a else a + 1) else a) = a from rfl, e] at h
      exact h
    | true =>
      have ha := ha rfl
      unfold okC at ha
      simp only [if_pos] at h
      by_cases e : a = 1099511627776
      · subst e
        simp (maxSteps := 1000000) (implicitDefEqProofs := false) only [pf28, hL, h30, S30_eq, go_sem, ↓reduceIte, decide_eq_true_eq, decide_eq_false_iff_not, ge_iff_le, gt_iff_lt, Int.not_le, Int.not_lt, Bool.not_eq_true', Bool.not_eq_false', Bool.and_eq_true, Bool.and_eq_false_iff]
        simp only [if_pos, updC] at h
        rw [upd_self hL] at h
        exact ⟨_, true, hx', fun _ => h, fun c => absurd rfl c⟩
      · rw [if_neg e, if_neg e, if_neg e] at h
        simp only [updC] at h
        simp (maxSteps := 1000000) (implicitDefEqProofs := false) only [pf28, hL, h30, S30_eq, h45, S45_eq, go_sem, ↓reduceIte, decide_eq_true_eq, decide_eq_false_iff_not, ge_iff_le, gt_iff_lt, Int.not_le, Int.not_lt, Bool.not_eq_true', Bool.not_eq_false', Bool.and_eq_true, Bool.and_eq_false_iff]
        refine ⟨a, true, hx', fun c => absurd c e, fun _ => ?_⟩
        skip
        refine ⟨a, true, rfl, ?_⟩
        rw [w64 (by omega) (by omega)]; exact h
theorem walk26 {n : Int} (h44 : Abs.look l 44 = some S44) (h1 : okC n → ∀ id, Abs.look G id = none → Q (.tup [.ptr id, .int .i64 0]) ((id, CT n true) :: G)) (h2 : ¬ okC n → Q (.tup [.nilp, .int .i64 1]) G) : Wf E (specOf l) pf26 [.int .i64 n] G Q := by
  by_cases hn : okC n
  · have h1 := h1 hn
    unfold okC at hn
    simp (maxSteps := 1000000) (implicitDefEqProofs := false) (disch := omega) only [pf26, h44, S44_eq, go_sem, ↓reduceIte, decide_eq_true_eq, decide_eq_false_iff_not, ge_iff_le, gt_iff_lt, Int.not_le, Int.not_lt, w64, Bool.not_eq_true', Bool.not_eq_false', Bool.and_eq_true, Bool.and_eq_false_iff]
    exact ⟨fun c => by omega, fun _ => ⟨fun c => by omega, fun _ id hid => ⟨_, _, rfl, h1 id hid⟩⟩⟩
  · have h2 := h2 hn
    unfold okC at hn
    simp (maxSteps := 1000000) (implicitDefEqProofs := false) (disch := omega) only [pf26, h44, S44_eq, go_sem, ↓reduceIte, decide_eq_true_eq, decide_eq_false_iff_not, ge_iff_le, gt_iff_lt, Int.not_le, Int.not_lt, w64, Bool.not_eq_true', Bool.not_eq_false', Bool.and_eq_true, Bool.and_eq_false_iff]
    exact ⟨fun _ => h2, fun c1 => ⟨fun _ => h2, fun c2 => absurd ⟨c1, c2⟩ hn⟩⟩
theorem walk31 {x : V} {a : Int} {b : Bool} (h30 : Abs.look l 30 = some S30) (h26 : Abs.look l 26 = some S26) (hx : CV G x a b) (h1 : b = true ∧ okC a → ∀ id, Abs.look G id = none → Q (.v (.ptr id)) ((id, CT a true) :: G)) (h2 : ¬ (b = true ∧ okC a) → Q (.v .nilp) G) : Wf E (specOf l) pf31 [x] G Q := by
  have hx' := hx
  rcases hx with ⟨rfl, rfl, rfl⟩ | ⟨id, rfl, hL⟩
  · simp (maxSteps := 1000000) (implicitDefEqProofs := false) only [pf31, go_sem, ↓reduceIte, decide_eq_true_eq, decide_eq_false_iff_not, ge_iff_le, gt_iff_lt, Int.not_le, Int.not_lt, Bool.not_eq_true', Bool.not_eq_false', Bool.and_eq_true, Bool.and_eq_false_iff]
    exact h2 (by simp)
  · cases b with
    | false =>
      simp (maxSteps := 1000000) (implicitDefEqProofs := false) only [pf31, hL, go_sem, ↓reduceIte, decide_eq_true_eq, decide_eq_false_iff_not, ge_iff_le, gt_iff_lt, Int.not_le, Int.not_lt, Bool.not_eq_true', Bool.not_eq_false', Bool.and_eq_true, Bool.and_eq_false_iff]
      exact h2 (by simp)
    | true =>
      simp (maxSteps := 1000000) (implicitDefEqProofs := false) only [pf31, hL, h30, S30_eq, h26, S26_eq, go_sem, ↓reduceIte, decide_eq_true_eq, decide_eq_false_iff_not, ge_iff_le, gt_iff_lt, Int.not_le, Int.not_lt, Bool.not_eq_true', Bool.not_eq_false', Bool.and_eq_true, Bool.and_eq_false_iff]
      refine ⟨a, true, hx', ?_⟩
      refine ⟨fun c id' hid => ?_, fun c => ?_⟩
      · exact h1 ⟨rfl, c⟩ id' hid
      · exact h2 (fun q => c q.2)
theorem walk27 (h26 : Abs.look l 26 = some S26) (h28 : Abs.look l 28 = some S28) (h30 : Abs.look l 30 = some S30) (h : ∀ id, Abs.look G id = none → Q (.v (.bool true)) ((id, CT 1 true) :: G)) : Wf E (specOf l) pf27 [] G Q := by
  simp (maxSteps := 1000000) (implicitDefEqProofs := false) only [pf27, h26, S26_eq, h28, S28_eq, h30, S30_eq, go_sem, ↓reduceIte, decide_eq_true_eq, decide_eq_false_iff_not, ge_iff_le, gt_iff_lt, Int.not_le, Int.not_lt, Bool.not_eq_true', Bool.not_eq_false', Bool.and_eq_true, Bool.and_eq_false_iff]
  refine ⟨fun c id hid => ?_, fun c => absurd (show okC 0 by decide) c⟩
  skip
  refine ⟨0, true, ⟨.inr ⟨id, rfl, ?_⟩, fun _ => by decide⟩, ?_⟩
  · simp [look_cons]
  have e : updC ((id, CT 0 true) :: G) (.ptr id) (upA 0 true) true = (id, CT 1 true) :: G := by
    show upd _ _ _ = _
    rw [upd_cons_same]; rfl
  rw [e]
  have e1 : upN 0 true = 1 := rfl
  have e2 : upE 0 true = 0 := rfl
  simp (maxSteps := 1000000) (implicitDefEqProofs := false) only [h30, S30_eq, e1, e2, go_sem, ↓reduceIte, decide_eq_true_eq, decide_eq_false_iff_not, ge_iff_le, gt_iff_lt, Int.not_le, Int.not_lt, Bool.not_eq_true', Bool.not_eq_false', Bool.and_eq_true, Bool.and_eq_false_iff]
  refine ⟨1, true, .inr ⟨id, rfl, by simp [look_cons]⟩, ?_⟩
  exact h id hid
end Go.Proofs.Ytcicoepkmiahbaa.Cnt
