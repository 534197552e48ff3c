/- Accumulations: plain laws. -/
import Derived.Test.YtegamlopcdjiaaaDoorCrtA
namespace Go.Abs.Sha
open Go Go.Abs Go.Abs.Srt
set_option linter.unusedVariables false
set_option linter.unusedSimpArgs false
structure AccS where
  who : Int
  vi : Int
  pv : Int
  ph : List Int
  fr : List Int
  ta : List Int
def AccS.v (a : AccS) : V := .agg [.int .i64 a.who, .int .i64 a.vi, .int .i64 a.pv, .arr .u8 32 a.ph, .sli .i64 a.fr, .arr .u8 32 a.ta]
def AccS.zero : AccS := ⟨0, 0, 0, zero32, [], zero32⟩
structure AccS.wf (a : AccS) : Prop where
  who : I64 a.who
  vi : I64 a.vi
  pv : I64 a.pv
  ph : H32 a.ph
  fr : ∀ x ∈ a.fr, I64 x
  ta : H32 a.ta
def riseI (n : Int) : Int → List Int → Bool
  | _, [] => true
  | low, w :: ws => if w ≤ low ∨ n < w then false else riseI n w ws
theorem riseI_all {n : Int} : ∀ {l : List Int} {low : Int}, riseI n low l = true → ∀ x ∈ l, low < x ∧ x ≤ n
  | [], _, _ => fun x hx => by cases hx
  | w :: ws, low, h => by
    unfold riseI at h
    split at h
    · cases h
    · rename_i hw
      intro x hx
      rcases List.mem_cons.1 hx with rfl | hx
      · omega
      · have := riseI_all h x hx; omega
theorem riseI_len {n : Int} : ∀ {l : List Int} {low : Int}, riseI n low l = true → l = [] ∨ (l.length : Int) ≤ n - low
  | [], _, _ => .inl rfl
  | w :: ws, low, h => by
    unfold riseI at h
    split at h
    · cases h
    · rename_i hw
      rcases riseI_len h with rfl | h2
      · right; simp; omega
      · right; simp only [List.length_cons]; omega
def AccS.May (a : AccS) : Prop := (1 ≤ a.who ∧ a.who ≤ 21) ∧ (1 ≤ a.vi ∧ a.vi ≤ 1099511627776) ∧ (0 ≤ a.pv ∧ a.pv < a.vi) ∧ a.fr ≠ [] ∧ riseI 21 0 a.fr = true
instance (a : AccS) : Decidable a.May := by unfold AccS.May; infer_instance
def AccS.may (a : AccS) : Bool := decide a.May
def nums : List Int → List Int
  | [] => []
  | x :: l => num x.toNat ++ nums l
theorem nums_ok : ∀ {l : List Int}, (∀ x ∈ l, 0 ≤ x ∧ x < 2000000000000) → Byt (nums l) ∧ (nums l).length ≤ 10 * l.length
  | [], _ => ⟨byt_nil, by simp [nums]⟩
  | x :: l, h => by
    obtain ⟨h1, h2⟩ := nums_ok (l := l) fun y hy => h y (List.mem_cons_of_mem _ hy)
    have hx := h x (List.mem_cons_self ..)
    obtain ⟨h3, h4⟩ := num_ok (n := x.toNat) (by omega)
    refine ⟨byt_app h3 h1, ?_⟩
    simp only [nums, List.length_append, List.length_cons]; omega
def AccS.said (a : AccS) : List Int := num a.vi.toNat ++ num a.pv.toNat ++ a.ph ++ num a.fr.length ++ nums a.fr
def AccS.tag (kt : List Int) (a : AccS) : List Int := tagH kt a.who 2 a.said
def AccS.right (kt : List Int) (n : Int) (a : AccS) : Bool :=
  decide (quo n ≠ 0) && a.may && decide (a.who ≤ n) && decide ((a.fr.length : Int) = quo n) && decide (a.fr.getLast?.getD 0 ≤ n) && decide (a.ta = a.tag kt)
theorem AccS.may_len {a : AccS} (h : a.May) : a.fr.length ≤ 21 ∧ 0 < a.fr.length ∧ ∀ x ∈ a.fr, 0 < x ∧ x ≤ 21 := by
  obtain ⟨_, _, _, h4, h5⟩ := h
  refine ⟨?_, List.length_pos_iff.2 h4, riseI_all h5⟩
  rcases riseI_len h5 with h | h
  · exact absurd h h4
  · omega
theorem AccS.said_ok {a : AccS} (h : a.wf) (hm : a.May) : Byt a.said ∧ a.said.length ≤ 300 := by
  obtain ⟨l1, l2, l3⟩ := AccS.may_len hm
  obtain ⟨m1, m2, m3, m4, m5⟩ := hm
  obtain ⟨a1, a2⟩ := num_ok (n := a.vi.toNat) (by omega)
  obtain ⟨b1, b2⟩ := num_ok (n := a.pv.toNat) (by omega)
  obtain ⟨c1, c2⟩ := num_ok (n := a.fr.length) (by omega)
  obtain ⟨d1, d2⟩ := nums_ok (l := a.fr) fun x hx => by have := l3 x hx; omega
  refine ⟨byt_app (byt_app (byt_app (byt_app a1 b1) h.ph.1) c1) d1, ?_⟩
  have := h.ph.2
  simp only [AccS.said, List.length_append]; omega
theorem AccS.zero_wf : AccS.zero.wf := ⟨by decide, by decide, by decide, h32_zero, (fun x hx => by cases hx), h32_zero⟩
structure MkOk (kt : List Int) (by_ n view : Int) (l : List AttS) (a : AccS) (fs : List AttS) : Prop where
  q0 : quo n ≠ 0
  ne : fs ≠ []
  fr : a.fr = fs.map (·.who)
  len : (a.fr.length : Int) = quo n
  find : ∀ x ∈ fs, l.find? (fun y => decide (y.who = x.who)) = some x
  ge : ∀ x ∈ fs, x.pv ≤ a.pv
  told : ∃ x ∈ fs, x.pv = a.pv ∧ x.pa = a.ph
  right : a.right kt n = true
  may : a.May
  who : a.who = by_
end Go.Abs.Sha
