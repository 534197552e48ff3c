/- Numbers as bytes; attestations. -/
import Derived.Test.YtegamlopcdjiaaaDoorShaB
import Derived.Test.YtegamlopcdjiaaaDoorPlain6
namespace Go.Abs.Sha
open Go Go.Abs
set_option linter.unusedVariables false
set_option linter.unusedSimpArgs false
def num (n : Nat) : List Int := if n < 128 then [(n : Int)] else ((n % 128 + 128 : Nat) : Int) :: num (n / 128)
termination_by n
decreasing_by omega
theorem num_small {n : Nat} (h : n < 128) : num n = [(n : Int)] := by rw [num, if_pos h]
theorem num_big {n : Nat} (h : ¬ n < 128) : num n = ((n % 128 + 128 : Nat) : Int) :: num (n / 128) := by rw [num, if_neg h]
theorem byt_num : ∀ (k n : Nat), n < 128 ^ (k + 1) → Byt (num n) ∧ (num n).length ≤ k + 1
  | 0, n, h => by
    rw [num_small (by omega)]
    exact ⟨byt_cons (by omega) byt_nil, by simp⟩
  | k + 1, n, h => by
    by_cases hn : n < 128
    · rw [num_small hn]
      exact ⟨byt_cons (by omega) byt_nil, by simp⟩
    · rw [num_big hn]
      have h2 : n / 128 < 128 ^ (k + 1) := by
        rw [Nat.pow_succ] at h
        exact Nat.div_lt_of_lt_mul (by rw [Nat.mul_comm]; exact h)
      obtain ⟨h3, h4⟩ := byt_num k _ h2
      refine ⟨byt_cons (by omega) h3, by simp only [List.length_cons]; omega⟩
theorem num_ok {n : Nat} (h : n < 18446744073709551616) : Byt (num n) ∧ (num n).length ≤ 10 :=
  byt_num 9 n (Nat.lt_of_lt_of_le h (by decide))
theorem or128 {n : Int} (h : 0 ≤ n) : bOr .u8 (IntKind.u8.wrap n) 128 = ((n.toNat % 128 + 128 : Nat) : Int) := by
  have hd : ∀ k : Fin 256, bOr .u8 (k.val : Int) 128 = ((k.val % 128 + 128 : Nat) : Int) := by decide +kernel
  have e : IntKind.u8.wrap n = ((n.toNat % 256 : Nat) : Int) := by
    simp only [IntKind.wrap, IntKind.bits, IntKind.signed]; simp; omega
  have := hd ⟨n.toNat % 256, Nat.mod_lt _ (by decide)⟩
  rw [e, this]
  simp only
  omega
structure AttS where
  who : Int
  ki : Int
  vi : Int
  ph : Int
  ha : List Int
  pv : Int
  pa : List Int
  ta : List Int
def AttS.v (a : AttS) : V := .agg [.int .i64 a.who, .int .i64 a.ki, .int .i64 a.vi, .int .i64 a.ph, .arr .u8 32 a.ha, .int .i64 a.pv, .arr .u8 32 a.pa, .arr .u8 32 a.ta]
def I64 (n : Int) : Prop := -9223372036854775808 ≤ n ∧ n ≤ 9223372036854775807
instance (n : Int) : Decidable (I64 n) := by unfold I64; infer_instance
def H32 (h : List Int) : Prop := Byt h ∧ h.length = 32
structure AttS.wf (a : AttS) : Prop where
  who : I64 a.who
  ki : I64 a.ki
  vi : I64 a.vi
  ph : I64 a.ph
  pv : I64 a.pv
  ha : H32 a.ha
  pa : H32 a.pa
  ta : H32 a.ta
def AttS.May (a : AttS) : Prop := (1 ≤ a.who ∧ a.who ≤ 21) ∧ (1 ≤ a.ki ∧ a.ki ≤ 3) ∧ a.ph = a.ki ∧ (1 ≤ a.vi ∧ a.vi ≤ 1099511627776) ∧ 0 ≤ a.pv ∧ (a.pv < a.vi ∨ a.ki = 3 ∧ a.pv = a.vi)
instance (a : AttS) : Decidable a.May := by unfold AttS.May; infer_instance
def AttS.may (a : AttS) : Bool := decide a.May
def AttS.said (a : AttS) : List Int := num a.ki.toNat ++ num a.vi.toNat ++ num a.ph.toNat ++ a.ha ++ num a.pv.toNat ++ a.pa
def AttS.tag (kt : List Int) (a : AttS) : List Int := tagH kt a.who 1 a.said
def AttS.signed (kt : List Int) (a : AttS) : AttS := { a with ta := a.tag kt }
def AttS.right (kt : List Int) (a : AttS) : Bool := a.may && decide (a.ta = a.tag kt)
def AttS.zero : AttS := ⟨0, 0, 0, 0, zero32, 0, zero32, zero32⟩
def AttS.sign (kt : List Int) (a : AttS) : AttS := if a.may = true then a.signed kt else .zero
def AttS.alike (a b : AttS) : Bool := decide (a.ki = b.ki ∧ a.vi = b.vi ∧ a.ph = b.ph ∧ a.ha = b.ha ∧ a.pv = b.pv ∧ a.pa = b.pa)
theorem h32_zero : H32 zero32 := ⟨byt_zero, rfl⟩
theorem AttS.zero_wf : AttS.zero.wf := ⟨by decide, by decide, by decide, by decide, by decide, h32_zero, h32_zero, h32_zero⟩
theorem h32_tag (kt : List Int) (a : AttS) : H32 (a.tag kt) := ⟨byt_tagH _ _ _ _, tagH_len _ _ _ _⟩
theorem AttS.signed_wf {kt : List Int} {a : AttS} (h : a.wf) : (a.signed kt).wf := ⟨h.who, h.ki, h.vi, h.ph, h.pv, h.ha, h.pa, h32_tag _ _⟩
theorem AttS.nums {a : AttS} (h : a.wf) (hm : a.May) : Byt (num a.ki.toNat) ∧ (num a.ki.toNat).length ≤ 10 ∧ Byt (num a.vi.toNat) ∧ (num a.vi.toNat).length ≤ 10 ∧ Byt (num a.ph.toNat) ∧ (num a.ph.toNat).length ≤ 10 ∧ Byt (num a.pv.toNat) ∧ (num a.pv.toNat).length ≤ 10 := by
  obtain ⟨h1, h2, h3, h4, h5, h6⟩ := hm
  obtain ⟨a1, a2⟩ := num_ok (n := a.ki.toNat) (by omega)
  obtain ⟨b1, b2⟩ := num_ok (n := a.vi.toNat) (by omega)
  obtain ⟨c1, c2⟩ := num_ok (n := a.ph.toNat) (by omega)
  obtain ⟨d1, d2⟩ := num_ok (n := a.pv.toNat) (by omega)
  exact ⟨a1, a2, b1, b2, c1, c2, d1, d2⟩
theorem AttS.said_ok {a : AttS} (h : a.wf) (hm : a.May) : Byt a.said ∧ a.said.length ≤ 104 := by
  obtain ⟨a1, a2, b1, b2, c1, c2, d1, d2⟩ := AttS.nums h hm
  refine ⟨byt_app (byt_app (byt_app (byt_app (byt_app a1 b1) c1) h.ha.1) d1) h.pa.1, ?_⟩
  have := h.ha.2; have := h.pa.2
  simp only [AttS.said, List.length_append]; omega
theorem byV_wk {x : V} {b : List Int} (h : byV x = some b) : Wk x (.sli .u8 b) := by
  rcases byV_cases h with rfl | ⟨rfl, rfl⟩
  · exact .inl rfl
  · exact .inr ⟨rfl, .inl ⟨_, rfl⟩⟩
theorem wk_1 {x x' : V} {l : List V} (h : Wk x x') : ∀ (i : Nat) z, (x' :: l)[i]? = some z → ∃ y, (x :: l)[i]? = some y ∧ Wk y z := by
  intro i z hz
  cases i with
  | zero => simp at hz; subst hz; exact ⟨x, rfl, h⟩
  | succ i => exact ⟨z, by simpa using hz, .inl rfl⟩
end Go.Abs.Sha
