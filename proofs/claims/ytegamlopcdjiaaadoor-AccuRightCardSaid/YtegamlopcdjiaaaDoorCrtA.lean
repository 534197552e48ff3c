/- Certificates, as plain values. -/
import Derived.Test.YtegamlopcdjiaaaDoorRowA
import Derived.Test.YtegamlopcdjiaaaDoorPlain6
import Derived.Test.YtegamlopcdjiaaaDoorShaC
namespace Go.Abs.Sha
open Go Go.Abs Go.Abs.Srt
set_option linter.unusedVariables false
set_option linter.unusedSimpArgs false
structure CertS where
  att : AttS
  sigs : List (Int × List Int)
def sgV (p : Int × List Int) : V := .agg [.int .i64 p.1, .arr .u8 32 p.2]
def CertS.v (c : CertS) : V := .agg [c.att.v, .sle 33 (c.sigs.map sgV)]
def CertS.zero : CertS := ⟨.zero, []⟩
def firstsA (n : Int) (l : List AttS) : List AttS := (List.range' 1 n.toNat).filterMap fun (k : Nat) => l.find? fun a => decide (a.who = (k : Int))
def quo (n : Int) : Int := if 1 ≤ n ∧ n ≤ 21 ∧ n % 2 = 1 then n / 2 + 1 else 0
theorem quo_le {n : Int} (h : quo n ≠ 0) : 1 ≤ n ∧ n ≤ 21 ∧ n % 2 = 1 ∧ quo n = n / 2 + 1 := by
  unfold quo at *; split at h
  · rename_i c; rw [if_pos c]; exact ⟨c.1, c.2.1, c.2.2, rfl⟩
  · exact absurd rfl h
theorem quo_nn (n : Int) : 0 ≤ quo n ∧ quo n ≤ 11 := by
  unfold quo; split <;> omega
def keyBy : V → Int
  | .agg (.int _ a :: _) => a
  | _ => 0
theorem keyBy_v (a : AttS) : keyBy a.v = a.who := rfl
theorem find_v {l : List AttS} {k : Int} : (l.map AttS.v).find? (fun x => decide (keyBy x = k)) = (l.find? fun a => decide (a.who = k)).map AttS.v := by
  induction l with
  | nil => rfl
  | cons a l ih =>
    by_cases h : a.who = k
    · simp [List.find?_cons, keyBy_v, h]
    · simp only [List.map_cons, List.find?_cons, keyBy_v, h, decide_false]
      exact ih
theorem cpt_atts {l : List AttS} {n : Int} (h : ∀ a ∈ l, 1 ≤ a.who ∧ a.who ≤ n) : cpt keyBy (srt keyBy (l.map AttS.v)) = (firstsA n l).map AttS.v := by
  rw [cpt_srt (n := n.toNat) (fun x hx => by
    obtain ⟨a, ha, rfl⟩ := List.mem_map.1 hx
    have := h a ha
    rw [keyBy_v]; omega)]
  unfold firstsA
  rw [List.map_filterMap]
  congr 1; funext k
  exact find_v
theorem firstsA_mem {n : Int} {l : List AttS} {a : AttS} (h : a ∈ firstsA n l) : a ∈ l := by
  unfold firstsA at h
  obtain ⟨k, _, h⟩ := List.mem_filterMap.1 h
  exact List.mem_of_find?_eq_some h
theorem _root_.Go.Abs.Row.one {G0 G : List (Nat × V)} {sz : Nat} {z x : V} {els : List V} (h : Row G0 G sz z x els) : x.size = 1 ∧ x.isAgg = false := by
  obtain ⟨_, ⟨rfl, _⟩ | ⟨id, c, L, rfl, _⟩⟩ := h <;> exact ⟨rfl, rfl⟩
theorem _root_.Go.Abs.Row.like {G0 G G1 G2 : List (Nat × V)} {sz : Nat} {z x y : V} {els e2 : List V} (h : Row G0 G sz z x els) (h2 : Row G1 G2 sz z y e2) : y.same x = true := by
  obtain ⟨_, ⟨rfl, _⟩ | ⟨id, c, L, rfl, _⟩⟩ := h <;> obtain ⟨_, ⟨rfl, _⟩ | ⟨id, c, L, rfl, _⟩⟩ := h2 <;> rfl
theorem _root_.Go.Abs.Row.base {G0 G1 G : List (Nat × V)} {sz : Nat} {z x : V} {els : List V} (h : Row G1 G sz z x els) (he : Go.Abs.Ext G0 G1) : Row G0 G sz z x els := by
  obtain ⟨h0, h⟩ := h
  refine ⟨he.trans h0, ?_⟩
  rcases h with h | ⟨id, c, L, h1, h2, h3⟩
  · exact .inl h
  · exact .inr ⟨id, c, L, h1, he.none h2, h3⟩
end Go.Abs.Sha
