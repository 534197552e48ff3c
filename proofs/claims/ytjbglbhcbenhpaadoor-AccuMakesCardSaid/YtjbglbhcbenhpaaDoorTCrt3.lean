/- Certificates: the reference makes them. -/
import Derived.Test.YtjbglbhcbenhpaaDoorTCrt2
namespace Go.Proofs.YtjbglbhcbenhpaaDoor.Sha
open Go Go.Abs Go.Abs.Sha Go.Abs.Srt
set_option linter.unusedSimpArgs false
set_option linter.unusedVariables false
set_option maxRecDepth 100000
attribute [local irreducible] W Wops WopsD WL Wop WopD
variable {E : Env} {C : Abs.Spec} {l : List (Nat × Spec1)} {G : List (Nat × V)} {Q : R → List (Nat × V) → Prop}
set_option maxHeartbeats 1000000
theorem get_v {as : List AttS} {j : Nat} {b : AttS} (h : as[j]? = some b) : (as.map AttS.v)[j]? = some b.v := by rw [List.getElem?_map, h]; rfl
theorem any_of {p : AttS → Bool} {as : List AttS} {j : Nat} {b : AttS} (h : as[j]? = some b) (hp : p b = true) : as.any p = true := List.any_eq_true.2 ⟨b, List.mem_of_getElem? h, hp⟩
theorem any_no {p : AttS → Bool} {as : List AttS} (h : ∀ x ∈ as.take as.length, p x = false) : as.any p = false := by
  rw [List.take_length] at h
  exact List.any_eq_false.2 fun x hx => by rw [h x hx]; decide
theorem take_one {p : AttS → Bool} {as : List AttS} {j : Nat} {b : AttS} (h : as[j]? = some b) (hj : ∀ x ∈ as.take j, p x = false) (hp : p b = false) : ∀ x ∈ as.take (j + 1), p x = false := fun x hx => by
  rw [List.take_add_one, h] at hx
  rcases List.mem_append.1 hx with hx | hx
  · exact hj x hx
  · rw [Option.toList_some, List.mem_singleton] at hx; rw [hx]; exact hp
theorem find_at {p : AttS → Bool} {as : List AttS} {j : Nat} {b : AttS} (h : as[j]? = some b) (hj : ∀ x ∈ as.take j, p x = false) (hp : p b = true) : as.find? p = some b := by
  have e : as = as.take j ++ (b :: as.drop (j + 1)) := by
    have := List.getElem?_eq_some_iff.1 h
    obtain ⟨h1, h2⟩ := this
    rw [← h2, ← List.drop_eq_getElem_cons h1, List.take_append_drop]
  rw [e, List.find?_append, List.find?_eq_none.2 (fun x hx => by rw [hj x hx]; decide), List.find?_cons, hp]; rfl
theorem find_no {p : AttS → Bool} {as : List AttS} (h : ∀ x ∈ as.take as.length, p x = false) : as.find? p = none := by
  rw [List.take_length] at h
  exact List.find?_eq_none.2 fun x hx => by rw [h x hx]; decide
theorem firstsA_succ {k : Nat} {l : List AttS} : firstsA ((k + 1 : Nat) : Int) l = firstsA (k : Int) l ++ (l.find? fun a => decide (a.who = ((k + 1 : Nat) : Int))).toList := by
  unfold firstsA
  rw [Int.toNat_natCast, Int.toNat_natCast, List.range'_concat, List.filterMap_append, Nat.one_mul, Nat.add_comm 1 k]
  congr 1
theorem firstsA_pre {k : Nat} {l : List AttS} : ∀ d : Nat, ∃ m, firstsA ((k + d : Nat) : Int) l = firstsA (k : Int) l ++ m
  | 0 => ⟨[], by rw [List.append_nil]; rfl⟩
  | d + 1 => by
    obtain ⟨m, hm⟩ := firstsA_pre (k := k) (l := l) d
    exact ⟨m ++ _, by rw [← Nat.add_assoc, firstsA_succ, hm, List.append_assoc]⟩
end Go.Proofs.YtjbglbhcbenhpaaDoor.Sha
