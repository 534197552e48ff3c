/- Numbers read from bytes; a reader's steps. -/
import Derived.Test.YtjbglbhcbenhpaaDoorShaC
namespace Go.Abs.Sha
open Go Go.Abs
set_option linter.unusedVariables false
set_option linter.unusedSimpArgs false
/-- The number that bytes go on with behind i bytes, and how many they are in all. -/
def decI : Nat → Nat → List Int → Option (Nat × Nat)
  | _, _, [] => none
  | i, acc, c :: r => if 10 ≤ i then none else if (i = 9 ∧ 1 < c) ∨ (0 < i ∧ c = 0) then none else
    if c < 128 then some (acc + c.toNat * 128 ^ i, i + 1) else decI (i + 1) (acc + (c.toNat - 128) * 128 ^ i) r
theorem p9 {i : Nat} (h : i ≤ 9) : i = 0 ∨ i = 1 ∨ i = 2 ∨ i = 3 ∨ i = 4 ∨ i = 5 ∨ i = 6 ∨ i = 7 ∨ i = 8 ∨ i = 9 := by omega
theorem pow_le9 {i : Nat} (h : i ≤ 9) : 0 < 128 ^ i ∧ 128 ^ i ≤ 9223372036854775808 := by
  rcases p9 h with rfl | rfl | rfl | rfl | rfl | rfl | rfl | rfl | rfl | rfl <;> decide
theorem dec_num : ∀ (n i acc : Nat) (r : List Int), i ≤ 9 → n * 128 ^ i < 18446744073709551616 → (0 < i → 0 < n) → decI i acc (num n ++ r) = some (acc + n * 128 ^ i, i + (num n).length) := by
  intro n
  induction n using Nat.strongRecOn with
  | _ n ih =>
    intro i acc r hi hn h0
    have h9 : i = 9 → n ≤ 1 := by
      rintro rfl
      have : (128 : Nat) ^ 9 = 9223372036854775808 := by decide
      omega
    by_cases hlt : n < 128
    · rw [num_small hlt]
      simp only [List.cons_append, List.nil_append, decI, List.length_cons, List.length_nil]
      rw [if_neg (by omega), if_neg (by omega), if_pos (by omega)]
      simp
    · have h8 : i ≤ 8 := by
        rcases p9 hi with rfl | rfl | rfl | rfl | rfl | rfl | rfl | rfl | rfl | rfl <;> first | omega | (have := h9 rfl; omega)
      have hp : 128 ^ (i + 1) = 128 ^ i * 128 := Nat.pow_succ ..
      have hpos := (pow_le9 hi).1
      have hm : n / 128 * 128 ^ (i + 1) ≤ n * 128 ^ i := by
        rw [hp, Nat.mul_comm (128 ^ i) 128, ← Nat.mul_assoc]
        exact Nat.mul_le_mul_right _ (Nat.div_mul_le_self _ _)
      have e : decI (i + 1) (acc + n % 128 * 128 ^ i) (num (n / 128) ++ r) = some (acc + n % 128 * 128 ^ i + n / 128 * 128 ^ (i + 1), i + 1 + (num (n / 128)).length) :=
        ih (n / 128) (by omega) (i + 1) _ r (by omega) (by omega) (by omega)
      rw [num_big hlt]
      simp only [List.cons_append, decI, List.length_cons]
      rw [if_neg (by omega), if_neg (by omega), if_neg (by omega)]
      have e2 : ((n % 128 + 128 : Nat) : Int).toNat - 128 = n % 128 := by omega
      rw [e2, e]
      have e3 : n % 128 * 128 ^ i + n / 128 * 128 ^ (i + 1) = n * 128 ^ i := by
        rw [hp, Nat.mul_comm (128 ^ i) 128, ← Nat.mul_assoc, ← Nat.add_mul, show n % 128 + n / 128 * 128 = n by omega]
      rw [Nat.add_assoc acc, e3, Nat.add_assoc i, Nat.add_comm 1]
theorem lt_mul64 {m i : Nat} (hi : i ≤ 8) (h : m * 128 ^ (i + 1) < 18446744073709551616) : m * 128 ^ (i + 1) + 128 ^ (i + 1) ≤ 18446744073709551616 := by
  rcases p9 (show i ≤ 9 by omega) with rfl | rfl | rfl | rfl | rfl | rfl | rfl | rfl | rfl | rfl <;> simp only [Nat.reduceAdd, Nat.reducePow] at h ⊢ <;> omega
theorem num_dec : ∀ (b : List Int) (i acc n k : Nat), Byt b → i ≤ 9 → decI i acc b = some (n, k) →
    ∃ m r, n = acc + m * 128 ^ i ∧ (0 < i → 0 < m) ∧ m * 128 ^ i < 18446744073709551616 ∧ b = num m ++ r ∧ k = i + (num m).length
  | [], i, acc, n, k, hb, hi, h => by simp [decI] at h
  | c :: r, i, acc, n, k, hb, hi, h => by
    have hc := hb c (List.mem_cons_self ..)
    have hr : Byt r := fun x hx => hb x (List.mem_cons_of_mem _ hx)
    simp only [decI] at h
    rw [if_neg (by omega)] at h
    split at h
    · cases h
    rename_i hbad
    split at h
    · rename_i hlt; cases h
      refine ⟨c.toNat, r, rfl, by omega, ?_, ?_, ?_⟩
      · by_cases h9 : i = 9
        · subst h9
          have : (128 : Nat) ^ 9 = 9223372036854775808 := by decide
          have : c.toNat ≤ 1 := by omega
          calc c.toNat * 128 ^ 9 ≤ 1 * 128 ^ 9 := Nat.mul_le_mul_right _ this
            _ < _ := by decide
        · have h1 : c.toNat * 128 ^ i ≤ 127 * 128 ^ i := Nat.mul_le_mul_right _ (by omega)
          have h2 : 127 * 128 ^ i < 18446744073709551616 := by
            rcases p9 hi with rfl | rfl | rfl | rfl | rfl | rfl | rfl | rfl | rfl | rfl <;> first | decide | omega
          omega
      · rw [num_small (by omega)]; simp; omega
      · rw [num_small (by omega)]; simp
    · rename_i hge
      have h8 : i ≤ 8 := by
        apply Classical.byContradiction
        intro hn
        have : i = 9 := by omega
        subst this
        cases r with
        | nil => simp [decI] at h
        | cons a r => simp [decI] at h
      obtain ⟨m, r', h1, h2, h3, h4, h5⟩ := num_dec r (i + 1) _ n k hr (by omega) h
      have hm : 0 < m := h2 (by omega)
      have hp : 128 ^ (i + 1) = 128 ^ i * 128 := Nat.pow_succ ..
      have hpos := (pow_le9 hi).1
      have e1 : (c.toNat - 128 + 128 * m) * 128 ^ i = (c.toNat - 128) * 128 ^ i + m * 128 ^ (i + 1) := by
        rw [Nat.add_mul, hp, Nat.mul_comm 128 m, Nat.mul_assoc, Nat.mul_comm 128 (128 ^ i)]
      refine ⟨c.toNat - 128 + 128 * m, r', by rw [e1, h1]; omega, fun _ => by omega, ?_, ?_, ?_⟩
      · rw [e1]
        have h6 := lt_mul64 h8 h3
        have h7 : (c.toNat - 128) * 128 ^ i < 128 ^ (i + 1) := by
          rw [hp, Nat.mul_comm (128 ^ i)]
          exact Nat.mul_lt_mul_of_pos_right (by omega) hpos
        omega
      · rw [num_big (by omega), h4, show (c.toNat - 128 + 128 * m) / 128 = m by omega]
        simp only [List.cons_append, List.cons.injEq, and_true]
        omega
      · rw [num_big (by omega), show (c.toNat - 128 + 128 * m) / 128 = m by omega, List.length_cons]
        omega
/-- The number that bytes begin with, and how many they are. -/
def decN (b : List Int) : Option (Nat × Nat) := decI 0 0 b
theorem decN_num {n : Nat} (hn : n < 18446744073709551616) (r : List Int) : decN (num n ++ r) = some (n, (num n).length) := by
  have := dec_num n 0 0 r (by omega) (by simpa using hn) (by omega)
  simpa [decN] using this
theorem decN_spec {b : List Int} {n k : Nat} (hb : Byt b) (h : decN b = some (n, k)) : n < 18446744073709551616 ∧ k = (num n).length ∧ b = num n ++ b.drop k ∧ k ≤ b.length := by
  obtain ⟨m, r, h1, h2, h3, h4, h5⟩ := num_dec b 0 0 n k hb (by omega) h
  simp at h1 h3 h5; subst h1
  refine ⟨h3, h5, ?_, ?_⟩
  · rw [h5, h4, List.drop_left]
  · rw [h5, h4]; simp
theorem num_pos (n : Nat) : 0 < (num n).length := by
  rw [num]; split <;> simp
/-- A reader: what is left, and whether something was wrong. -/
abbrev Rd := List Int × Bool
def Rd.v (s : Rd) : V := .agg [.sli .u8 s.1, .bool s.2]
def rdNum (s : Rd) : Nat × Rd := if s.2 = true then (0, s) else match decN s.1 with
  | none => (0, (s.1, true))
  | some (n, k) => (n, (s.1.drop k, false))
def rdUpto (top : Int) (s : Rd) : Int × Rd := if s.2 = true then (0, s) else match decN s.1 with
  | none => (0, (s.1, true))
  | some (n, k) => if top < 0 ∨ top < (n : Int) then (0, (s.1, true)) else ((n : Int), (s.1.drop k, false))
def rdHash (s : Rd) : List Int × Rd := if s.2 = true then (zero32, s) else if s.1.length < 32 then (zero32, (s.1, true)) else (s.1.take 32, (s.1.drop 32, false))
/-- What is left is a part of what was. -/
structure Rd.Ok (s : Rd) : Prop where
  byt : Byt s.1
theorem rdUpto_ok {top : Int} {s : Rd} (h : Byt s.1) : Byt (rdUpto top s).2.1 ∧ (rdUpto top s).2.1.length ≤ s.1.length ∧ 0 ≤ (rdUpto top s).1 ∧ (0 ≤ top → (rdUpto top s).1 ≤ top) := by
  unfold rdUpto
  split
  · exact ⟨h, Nat.le_refl _, Int.le_refl _, fun h => h⟩
  · split
    · exact ⟨h, Nat.le_refl _, Int.le_refl _, fun h => h⟩
    · split
      · exact ⟨h, Nat.le_refl _, Int.le_refl _, fun h => h⟩
      · exact ⟨byt_drop h _, by simp, by simp, fun _ => by simp only; omega⟩
theorem rdHash_ok {s : Rd} (h : Byt s.1) : Byt (rdHash s).2.1 ∧ (rdHash s).2.1.length ≤ s.1.length ∧ H32 (rdHash s).1 := by
  unfold rdHash
  split
  · exact ⟨h, Nat.le_refl _, h32_zero⟩
  · split
    · exact ⟨h, Nat.le_refl _, h32_zero⟩
    · exact ⟨byt_drop h _, by simp, byt_take h _, by simp; omega⟩
theorem rdUpto_wrong {top : Int} {s : Rd} (h : s.2 = true) : rdUpto top s = (0, s) := by unfold rdUpto; rw [if_pos h]
theorem rdHash_wrong {s : Rd} (h : s.2 = true) : rdHash s = (zero32, s) := by unfold rdHash; rw [if_pos h]
/-- If nothing was wrong behind it, the number's bytes stood there. -/
theorem rdUpto_right {top : Int} {s : Rd} (hb : Byt s.1) (h : (rdUpto top s).2.2 = false) : s.2 = false ∧ s.1 = num (rdUpto top s).1.toNat ++ (rdUpto top s).2.1 ∧ 0 ≤ (rdUpto top s).1 ∧ (rdUpto top s).1 ≤ top ∧ (rdUpto top s).1 < 18446744073709551616 := by
  unfold rdUpto at h ⊢
  split at h
  · rename_i hw; simp [hw] at h
  · rename_i hw
    rw [if_neg hw]
    split at h
    · cases h
    · rename_i n k hd
      split at h
      · cases h
      · rename_i ht
        obtain ⟨h1, h2, h3, h4⟩ := decN_spec hb hd
        rw [if_neg ht]
        exact ⟨by simpa using hw, by simpa using h3, by simp, by simp only; omega, by simp only; omega⟩
theorem rdHash_right {s : Rd} (h : (rdHash s).2.2 = false) : s.2 = false ∧ s.1 = (rdHash s).1 ++ (rdHash s).2.1 ∧ (rdHash s).1.length = 32 := by
  unfold rdHash at h ⊢
  split at h
  · rename_i hw; simp [hw] at h
  · rename_i hw
    rw [if_neg hw]
    split at h
    · cases h
    · rename_i hl
      rw [if_neg hl]
      exact ⟨by simpa using hw, by simp, by simp; omega⟩
theorem rdUpto_of {top : Int} {n : Nat} {r : List Int} (h1 : (n : Int) ≤ top) (h2 : n < 18446744073709551616) : rdUpto top (num n ++ r, false) = ((n : Int), (r, false)) := by
  unfold rdUpto
  simp only [Bool.false_eq_true, if_false, decN_num h2, List.drop_left]
  rw [if_neg (by omega)]
theorem rdHash_of {h r : List Int} (hl : h.length = 32) : rdHash (h ++ r, false) = (h, (r, false)) := by
  unfold rdHash
  simp only [Bool.false_eq_true, if_false, List.length_append, hl]
  rw [if_neg (by omega), ← hl, List.take_left, List.drop_left]
end Go.Abs.Sha
