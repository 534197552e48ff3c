/- Rows that turn: their elements, functions that hold two of them against each other, functions that ask of one. -/
import Derived.Test.YtegamlopcdjiaaaDoorSrtA
import Derived.Test.YtegamlopcdjiaaaDoorPlain6
namespace Go.Abs
open Go Go.Abs.Srt
set_option linter.unusedVariables false
set_option linter.unusedSimpArgs false
attribute [go_sem] oIdR oSlcR
structure RowOk (sz : Nat) (z : V) (L : List V) : Prop where
  all : ∀ x ∈ L, x.size = sz ∧ x.isAgg = true ∧ x.same z = true
theorem RowOk.get {sz z L} (h : RowOk sz z L) {i : Nat} {x : V} (hx : L[i]? = some x) : x.size = sz ∧ x.isAgg = true ∧ x.same z = true := h.all x (List.mem_of_getElem? hx)
theorem RowOk.sizes {sz z L} (h : RowOk sz z L) : ∀ x ∈ L, V.size x = sz := fun x hx => (h.all x hx).1
theorem RowOk.same {sz z L} (h : RowOk sz z L) {i j : Nat} {x y : V} (hx : L[i]? = some x) (hy : L[j]? = some y) : x.same y = true := V.same_trans' (h.get hx).2.2 (V.same_symm (h.get hy).2.2)
theorem RowOk.mem {sz z L M} (h : RowOk sz z L) (hm : ∀ x ∈ M, x ∈ L) : RowOk sz z M := ⟨fun x hx => h.all x (hm x hx)⟩
theorem RowOk.set {sz z L} (h : RowOk sz z L) {i j : Nat} {y : V} (hy : L[j]? = some y) : RowOk sz z (L.set i y) := h.mem fun w hw => by
  rcases List.mem_or_eq_of_mem_set hw with h | rfl
  · exact h
  · exact List.mem_of_getElem? hy
theorem RowOk.sameL {sz z} : ∀ {L M : List V}, RowOk sz z L → RowOk sz z M → L.length = M.length → V.sameL L M = true
  | [], [], _, _, _ => rfl
  | [], _ :: _, _, _, h => by simp at h
  | _ :: _, [], _, _, h => by simp at h
  | x :: L, y :: M, h1, h2, h => by
    simp only [V.sameL, Bool.and_eq_true]
    exact ⟨V.same_trans' (h1.all x (List.mem_cons_self ..)).2.2 (V.same_symm (h2.all y (List.mem_cons_self ..)).2.2), RowOk.sameL (h1.mem fun z hz => List.mem_cons_of_mem _ hz) (h2.mem fun z hz => List.mem_cons_of_mem _ hz) (by simpa using h)⟩
def KeyFn (T : List (Nat × Spec1)) (f : Nat) (caps : List V) (P : V → Prop) (key : V → Int) : Prop :=
  (∃ s, look T f = some s) ∧ ∀ x y G (Q : R → List (Nat × V) → Prop), P x → P y → (∀ r : Int, (r < 0 ↔ key x < key y) → Q (.v (.int .i64 r)) G) → runO (look T f) ([x, y] ++ caps) G Q
def EqFn (T : List (Nat × Spec1)) (f : Nat) (caps : List V) (P : V → Prop) (key : V → Int) : Prop :=
  (∃ s, look T f = some s) ∧ ∀ x y G (Q : R → List (Nat × V) → Prop), P x → P y → Q (.v (.bool (decide (key x = key y)))) G → runO (look T f) ([x, y] ++ caps) G Q
def PredFn (T : List (Nat × Spec1)) (f : Nat) (caps : List V) (G : List (Nat × V)) (P : V → Prop) (p : V → Bool) : Prop :=
  (∃ s, look T f = some s) ∧ ∀ x (Q : R → List (Nat × V) → Prop), P x → Q (.v (.bool (p x))) G → runO (look T f) ([x] ++ caps) G Q
def Sub (T l : List (Nat × Spec1)) : Prop := ∀ f s, look T f = some s → look l f = some s
theorem Sub.run {T l : List (Nat × Spec1)} (h : Sub T l) {f : Nat} (hf : ∃ s, look T f = some s) {vs G Q} (hq : runO (look T f) vs G Q) : runO (look l f) vs G Q := by
  obtain ⟨s, hs⟩ := hf
  rw [h f s hs]; rw [hs] at hq; exact hq
theorem ok_of {T : List (Nat × Spec1)} {ok : Nat → Bool} (h : (T.all fun p => ok p.1) = true) {f : Nat} (hf : ∃ s, look T f = some s) : ok f = true := by
  induction T with
  | nil => obtain ⟨s, hs⟩ := hf; cases hs
  | cons p T ih =>
    obtain ⟨k, s0⟩ := p
    simp only [List.all_cons, Bool.and_eq_true] at h
    by_cases e : f = k
    · rw [e]; exact h.1
    · refine ih h.2 ?_
      obtain ⟨s, hs⟩ := hf
      rw [look_cons, if_neg e] at hs
      exact ⟨s, hs⟩
theorem set_mid {A B : List V} {x y : V} {i : Nat} (h : i = A.length) : (A ++ x :: B).set i y = A ++ y :: B := by subst h; simp
theorem get_mid {A B : List V} {x : V} {i : Nat} (h : i = A.length) : (A ++ x :: B)[i]? = some x := by subst h; simp
theorem get_mid2 {A B : List V} {x y : V} {i : Nat} (h : i = A.length + 1) : (A ++ y :: x :: B)[i]? = some x := by
  subst h; rw [List.getElem?_append_right (by omega)]; simp
theorem set_mid2 {A B : List V} {x y z : V} {i : Nat} (h : i = A.length + 1) : (A ++ y :: x :: B).set i z = A ++ y :: z :: B := by
  subst h; rw [List.set_append_right _ _ (by omega)]; simp
theorem swap_mid {A B : List V} {x y : V} {i j : Nat} (h1 : i = A.length) (h2 : j = A.length + 1) : ((A ++ y :: x :: B).set j y).set i x = A ++ x :: y :: B := by rw [set_mid2 h2, set_mid h1]
theorem up_last {key : V → Int} {A : List V} {y : V} {k : Int} (h : Up key (A ++ [y])) (hk : key y ≤ k) : ∀ w ∈ A ++ [y], key w ≤ k := by
  intro w hw
  rcases List.mem_append.1 hw with hw | hw
  · exact Int.le_trans ((List.pairwise_append.1 h).2.2 w hw y (by simp)) hk
  · rw [List.mem_singleton.1 hw]; exact hk
theorem up_init {key : V → Int} {A B : List V} (h : Up key (A ++ B)) : Up key A := (List.pairwise_append.1 h).1
theorem concat_cases {α : Type} (l : List α) : l = [] ∨ ∃ m x, l = m ++ [x] := by
  rcases List.eq_nil_or_concat l with h | ⟨m, x, h⟩
  · exact .inl h
  · exact .inr ⟨m, x, by rw [h]; simp⟩
end Go.Abs
