/- Certificates: two quorums share one. -/
import Derived.Test.YtjbglbhcbenhpaaDoorAccA
namespace Go.Abs.Sha
open Go Go.Abs Go.Abs.Srt
set_option linter.unusedVariables false
set_option linter.unusedSimpArgs false
theorem cut3 {key : V → Int} (A S B : List V) : (A ++ S ++ B).take A.length ++ srt key (((A ++ S ++ B).take (A ++ S).length).drop A.length) ++ (A ++ S ++ B).drop (A ++ S).length = A ++ srt key S ++ B := by
  rw [List.take_left, List.drop_left, List.drop_left, List.append_assoc A S B, List.take_left]
theorem riseI_from {n low k : Int} {l : List Int} {x : Int} (h : riseI n low (x :: l) = true) (hk : k < x) : riseI n k (x :: l) = true := by
  unfold riseI at h ⊢
  split at h
  · cases h
  · rename_i hw
    rw [if_neg (by omega)]; exact h
theorem riseI_tail {n low : Int} {l : List Int} {x : Int} (h : riseI n low (x :: l) = true) : low < x ∧ x ≤ n ∧ riseI n x l = true := by
  unfold riseI at h
  split at h
  · cases h
  · rename_i hw
    exact ⟨by omega, by omega, h⟩
theorem meet {n : Int} : ∀ (k : Nat) {l m : List Int} {low : Int}, l.length + m.length = k → riseI n low l = true → riseI n low m = true → low ≤ n → (∀ x ∈ l, x ∉ m) → (l.length : Int) + m.length ≤ n - low := by
  intro k
  induction k with
  | zero => intro l m low hk h1 h2 hl hd; omega
  | succ k ih =>
    intro l m low hk h1 h2 hl hd
    cases l with
    | nil =>
      rcases riseI_len h2 with rfl | h2
      · simp at hk
      · simp only [List.length_nil]; omega
    | cons x l =>
      cases m with
      | nil =>
        rcases riseI_len h1 with h1 | h1
        · cases h1
        · simp only [List.length_nil]; omega
      | cons y m =>
        obtain ⟨a1, a2, a3⟩ := riseI_tail h1
        obtain ⟨b1, b2, b3⟩ := riseI_tail h2
        have hne : x ≠ y := by rintro rfl; exact hd x (List.mem_cons_self ..) (List.mem_cons_self ..)
        simp only [List.length_cons] at hk
        by_cases hxy : x < y
        · have := ih (l := l) (m := y :: m) (low := x) (by simp only [List.length_cons]; omega) a3 (riseI_from h2 hxy) a2 fun z hz => hd z (List.mem_cons_of_mem _ hz)
          simp only [List.length_cons] at this ⊢; omega
        · have := ih (l := x :: l) (m := m) (low := y) (by simp only [List.length_cons]; omega) (riseI_from h1 (by omega)) b3 b2 fun z hz hz2 => hd z hz (List.mem_cons_of_mem _ hz2)
          simp only [List.length_cons] at this ⊢; omega
theorem mk_signs {kt : List Int} {n : Int} {l : List AttS} (h : (mkCert kt n l).2 = 0) : quo n ≠ 0 ∧ ((mkCert kt n l).1.sigs.length : Int) = quo n ∧ riseI n 0 ((mkCert kt n l).1.sigs.map (·.1)) = true := by
  cases l with
  | nil => cases h
  | cons a l =>
    have e : mkCert kt n (a :: l) = if quo n = 0 then (.zero, 1) else if ((a :: l).any fun x => !(x.right kt) || decide (n < x.who)) = true then (.zero, 7) else if ((a :: l).any fun x => !(x.alike a)) = true then (.zero, 1)
      else if ((firstsA n (a :: l)).length : Int) < quo n then (.zero, 3) else (⟨bareA a, ((firstsA n (a :: l)).take (quo n).toNat).map fun x => (x.who, x.ta)⟩, 0) := rfl
    rw [e] at h ⊢
    by_cases c1 : quo n = 0
    · rw [if_pos c1] at h; cases h
    rw [if_neg c1] at h ⊢
    by_cases c2 : ((a :: l).any fun x => !(x.right kt) || decide (n < x.who)) = true
    · rw [if_pos c2] at h; cases h
    rw [if_neg c2] at h ⊢
    by_cases c3 : ((a :: l).any fun x => !(x.alike a)) = true
    · rw [if_pos c3] at h; cases h
    rw [if_neg c3] at h ⊢
    by_cases c4 : ((firstsA n (a :: l)).length : Int) < quo n
    · rw [if_pos c4] at h; cases h
    rw [if_neg c4]
    have hq := quo_nn n
    obtain ⟨hn1, hn2, _, _⟩ := quo_le c1
    refine ⟨c1, ?_, ?_⟩
    · show ((List.map _ _).length : Int) = _
      rw [List.length_map, List.length_take]; omega
    · have := riseI_firsts (N := n) (n := n) (l := a :: l) (Int.le_refl _) n.toNat 1 (quo n).toNat 0 (by decide) (by omega)
      show riseI n 0 (List.map _ (List.map _ _)) = true
      rw [List.map_map]; exact this
theorem certs_meet {kt : List Int} {n : Int} {l m : List AttS} (h : (mkCert kt n l).2 = 0) (h2 : (mkCert kt n m).2 = 0) : ∃ x, x ∈ (mkCert kt n l).1.sigs.map (·.1) ∧ x ∈ (mkCert kt n m).1.sigs.map (·.1) := by
  obtain ⟨q0, l1, r1⟩ := mk_signs h
  obtain ⟨_, l2, r2⟩ := mk_signs h2
  obtain ⟨n1, n2, n3, n4⟩ := quo_le q0
  refine Classical.byContradiction fun hc => ?_
  have := meet (n := n) _ rfl r1 r2 (by omega) fun x hx hx2 => hc ⟨x, hx, hx2⟩
  rw [List.length_map, List.length_map] at this
  omega
end Go.Abs.Sha
